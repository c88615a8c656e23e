import Derived.Test.YtdoidiipacdbpaaGreatDoorRI
namespace Go.Proofs.YtdoidiipacdbpaaGreatDoor
theorem sm_tree{t:Tree}(h:ZA t<=1048576):jf t:=by
 have h1:ZA t=qJ t.files+0:=rfl;have h2:qJ t.files=t.files.length+sumL jP t.files:=rfl;refine⟨by omega,λ f hf=>?_⟩;have h3:=Zr (f:=jP) hf;have h4:jP f=f.pkg.l.length+(f.name.l.length+(Zs f.body+(0))):=rfl;have h5:Zs f.body=f.body.length+sumL XT f.body:=rfl;refine⟨by omega,by omega,by omega,λ s hs=>?_⟩;have h6:=Zr (f:=XT) hs;have h7:XT s=s.module.l.length+(s.name.l.length+(0)):=rfl;exact⟨by omega,by omega⟩
def qf(l:List Dir):Prop:=l.length<=1048576/\∀ d∈l,d.pkg.l.length<=1048576/\d.names.length<=1048576
theorem sm_dirs{l:List Dir}(h:yK l<=1048576):qf l:=by
 have h1:yK l=l.length+sumL jQ l:=rfl;refine⟨by omega,λ d hd=>?_⟩;have h2:=Zr (f:=jQ) hd;have h3:jQ d=d.pkg.l.length+(wc d.names+(0)):=rfl;have h4:wc d.names=d.names.length+sumL (λ s:Str=>s.l.length) d.names:=rfl;exact⟨by omega,by omega⟩
theorem Z2(a b c:Int):xU a b c=some (inR a b c):=rfl
def Zt(r:Int)(p:Str)(d:Dir):Bool:=cmpI .eql d.root r&&decide (d.pkg=p)
theorem atDir_self(d:Dir):Zt d.root d.pkg d=true:=by simp[Zt,cmpI]
theorem dirAt_eq{l:List Dir}{r:Int}{p:Str}(h:l.length<=1048576):jL l r p=some (qV (Zt r p) l):=by
 unfold jL yg;have hl:zJ (λ s4=>zO l (λ a0=>qF a0 r p) s4) 0=some (match l.findIdx? (Zt r p) with | some i=>(Sum.inr (i:Int):Unit⊕Int) | none=>Sum.inl ()):=by
  refine Xz l (Zt r p) (λ i=>Sum.inr i) _ (λ k x hx hlt=>?_) ?_ (by omega) rfl
  ·
   unfold zO;rw[zL,if_pos (decide_eq_true hlt),zY,hx,obS];show Option.bind (some (Zt r p x)) _=_;rw[obS,zH (by omega)];cases Zt r p x <;> rfl
  ·
   unfold zO;rw[zL,if_neg (by simp)]
 rw[hl];unfold qV;cases l.findIdx? (Zt r p) <;> rfl
theorem QF{l:List Dir}{r:Int}{p:Str}(h:l.length<=1048576):jN l r p=some (qV (Zt r p) l):=by
 unfold jN;have hl:zJ (λ s4=>wL l r p s4) 0=some (match l.findIdx? (Zt r p) with | some i=>(Sum.inr (i:Int):Unit⊕Int) | none=>Sum.inl ()):=by
  refine Xz l (Zt r p) (λ i=>Sum.inr i) _ (λ k x hx hlt=>?_) ?_ (by omega) rfl
  ·
   unfold wL;rw[zL,if_pos (decide_eq_true hlt),zY,hx,obS,ya,obS,zH (by omega)];unfold Zt;cases cmpI .eql x.root r with
   | false=>rfl
   | true=>simp only[beq_self_eq_true,if_true,Bool.true_and];cases decide (x.pkg=p) <;> rfl
  ·
   unfold wL;rw[zL,if_neg (by simp)]
 rw[hl];exact idx_join _ _
def ZU(S n:Int)(l:List Dir)(k:Nat):Bool:=match l[k]? with
 | some d=>!((((!inR d.root 0 2||!zr d.pkg)||!inR d.stamp 0 S)||cmpI .gtr (d.names.length:Int) n)||(l.take k).any (Zt d.root d.pkg))
 | none=>true
def jl(S n:Int)(l:List Dir):Bool:=(List.range l.length).all (ZU S n l)&&cmpI .leq (l.length:Int) 20
theorem dirsOk_eq{S n:Int}{l:List Dir}(h:qf l):j9 l S n=some (jl S n l):=by
 have hlen:=h.1;unfold j9;have hl:zJ (λ s4=>wu l S n s4) 0=some (if(List.range l.length).any (λ k=>!ZU S n l k)=true then .inr false else .inl ()):=by
  refine Zp (List.range l.length) _ _ _ (λ k x hx hlt=>?_) ?_ (by rw[List.length_range];omega) rfl
  ·
   rw[List.length_range] at hlt;rw[List.getElem?_range hlt] at hx;injection hx with hx;subst hx;obtain⟨d,hd,hm⟩:=Zq hlt;have hpk:sho d.pkg:=by have:=(h.2 d hm).1;unfold sho;omega
   have htl:(l.take k).length<=1048576:=by simp;omega
   have ht:ZU S n l k=!((((!inR d.root 0 2||!zr d.pkg)||!inR d.stamp 0 S)||cmpI .gtr (d.names.length:Int) n)||(l.take k).any (Zt d.root d.pkg)):=by unfold ZU;rw[hd]
   unfold wu;rw[zL,if_pos (decide_eq_true hlt),zY,hd,obS,qT,obS,YA hpk,qT,WE (by omega),zH (by omega),ht];cases inR d.root 0 2 with
   | false=>rfl
   |
    true=>
    cases zr d.pkg with
    | false=>rfl
    |
     true=>
     cases inR d.stamp 0 S with
     | false=>rfl
     |
      true=>
      cases cmpI .gtr (d.names.length:Int) n with
      | true=>rfl
      |
       false=>
       simp only[Bool.not_true,beq_self_eq_true,Bool.or_self,Bool.false_or,Zw,obS];rw[dirAt_eq htl,obS,YS];cases(l.take k).any (Zt d.root d.pkg) <;> rfl
  ·
   unfold wu;rw[List.length_range,zL,if_neg (by simp)]
 rw[hl,obS,WG];unfold jl;cases(List.range l.length).all (ZU S n l) <;> rfl
theorem XU{l:List Dir}(h:qf l):wv l=some (jl 200 12 l):=by
 have hlen:=h.1;unfold wv;have hl:zJ (λ s4=>xv l s4) 0=some (if(List.range l.length).any (λ k=>!ZU 200 12 l k)=true then .inr false else .inl ()):=by
  refine Zp (List.range l.length) _ _ _ (λ k x hx hlt=>?_) ?_ (by rw[List.length_range];omega) rfl
  ·
   rw[List.length_range] at hlt;rw[List.getElem?_range hlt] at hx;injection hx with hx;subst hx;obtain⟨d,hd,hm⟩:=Zq hlt;have hpk:jj d.pkg=some (zr d.pkg):=if_pos (by have:=(h.2 d hm).1;unfold mid;omega);have ht:ZU 200 12 l k=!((((!inR d.root 0 2||!zr d.pkg)||!inR d.stamp 0 200)||cmpI .gtr (d.names.length:Int) 12)||(l.take k).any (Zt d.root d.pkg)):=by unfold ZU;rw[hd]
   unfold xv;rw[zL,if_pos (decide_eq_true hlt),zY,hd,obS,Z2,obS,zH (by omega),ht];cases inR d.root 0 2 with
   | false=>rfl
   |
    true=>
    rw[show((!true) == false)=true from rfl,Zw,obS,Zw,hpk,obS];cases zr d.pkg with
    | false=>rfl
    |
     true=>
     rw[show(((!true)||(!true)) == false)=true from rfl,Zw,obS,Zw,Z2,obS];cases inR d.stamp 0 200 with
     | false=>rfl
     |
      true=>
      rw[show((((!true)||(!true))||(!true)) == false)=true from rfl,Zw,obS,obS,Zw,QF hlen,obS,idxOf_lss hd (atDir_self d)];cases(l.take k).any (Zt d.root d.pkg) with
      | true=>cases cmpI .gtr (d.names.length:Int) 12 <;> rfl
      |
       false=>
       rw[show(((((!true)||(!true))||(!true))||false) == false)=true from rfl,Zw,obS];cases cmpI .gtr (d.names.length:Int) 12 <;> rfl
  ·
   unfold xv;rw[List.length_range,zL,if_neg (by simp)]
 rw[hl,obS,WG];unfold jl;cases(List.range l.length).all (ZU 200 12 l) <;> rfl
def qd(x:Finder):Bool:=(jl 200 12 x.dirs&&inR x.fills 0 1000)&&inR x.hits 0 1000
theorem zaD{x:Finder}(h:qf x.dirs):wB x=some (qd x):=by
 unfold wB qd;rw[dirsOk_eq h,obS,qT,qT,ya,obS,ya,obS];cases jl 200 12 x.dirs with
 | false=>rfl
 | true=>cases inR x.fills 0 1000 <;> cases inR x.hits 0 1000 <;> rfl
theorem zaE{x:Finder}(h:qf x.dirs):wC x=some (qd x):=by
 unfold wC qd;rw[XU h,obS,Z2,Z2,ya,obS,ya,obS];cases jl 200 12 x.dirs with
 | false=>rfl
 | true=>cases inR x.fills 0 1000 <;> cases inR x.hits 0 1000 <;> rfl
def Yd(x:Disk):Bool:=(yf x.tree&&inR x.clock 0 200)&&jl x.clock 0 x.dirs
theorem ValidDisk_eq{x:Disk}(ht:jf x.tree)(h:qf x.dirs):jE x=some (Yd x):=by
 unfold jE Yd;rw[ValidTree_eq ht,obS,qT,dirsOk_eq h,ya,obS,ya,obS];cases yf x.tree with
 | false=>rfl
 | true=>cases inR x.clock 0 200 <;> cases jl x.clock 0 x.dirs <;> rfl
def plain(c:Int)(d:Dir):Bool:=cmpI .gtr d.stamp c||cmpI .gtr (d.names.length:Int) 0
theorem Jc{c:Int}(hc:inR c 0 200=true)(l:List Dir):jl c 0 l=(!l.any (plain c)&&jl 200 12 l):=by
 unfold inR at hc;rw[Bool.and_eq_true] at hc;have h1:0<=c:=oD hc.1;have h2:c<=200:=oD hc.2;unfold jl;rw[← Bool.and_assoc]
 congr 1
 rw[Bool.eq_iff_iff,List.all_eq_true,Bool.and_eq_true,List.all_eq_true,Bool.not_eq_true',List.any_eq_false];have key:∀ (k:Nat) (d:Dir),l[k]?=some d->(ZU c 0 l k=true ↔ plain c d=false/\ZU 200 12 l k=true):=by
  intro k d hd;unfold ZU plain inR;rw[hd];simp only[cmpI,Bool.not_eq_true',Bool.or_eq_false_iff,Bool.not_eq_false',Bool.and_eq_true,decide_eq_true_eq,decide_eq_false_iff_not];constructor
  ·
   rintro ⟨⟨⟨⟨⟨a1,a2⟩,a3⟩,a4,a5⟩,a6⟩,a7⟩
   and_intros <;> first | assumption | omega
  ·
   rintro ⟨⟨b1,b2⟩,⟨⟨⟨⟨a1,a2⟩,a3⟩,a4,a5⟩,a6⟩,a7⟩
   and_intros <;> first | assumption | omega
 constructor
 ·
  intro h;refine⟨λ d hd=>?_,λ k hk=>?_⟩
  ·
   obtain⟨k,hk⟩:=List.getElem?_of_mem hd;rw[((key k d hk).1 (h k (List.mem_range.2 (zW hk)))).1]
   decide
  ·
   obtain⟨d,hd,_⟩:=Zq (List.mem_range.1 hk);exact((key k d hd).1 (h k hk)).2
 ·
  rintro ⟨ha,hb⟩ k hk
  obtain⟨d,hd,hm⟩:=Zq (List.mem_range.1 hk);exact(key k d hd).2 ⟨by simpa using ha d hm,hb k hk⟩
theorem validDisk_eq{x:Disk}(ht:jf x.tree)(h:qf x.dirs):jG x=some (Yd x):=by
 have hlen:=h.1;unfold jG;have hl:zJ (λ s4=>xw x s4) 0=some (if x.dirs.any (plain x.clock)=true then(Sum.inr false:Unit⊕Bool) else .inl ()):=by
  refine Zp x.dirs (plain x.clock) _ _ (λ k d hd hlt=>?_) ?_ (by omega) rfl
  ·
   unfold xw plain;rw[zL,if_pos (decide_eq_true hlt),zY,hd,obS,ya,obS,zH (by omega)];cases cmpI .gtr d.stamp x.clock with
   | true=>rfl
   | false=>simp only[beq_self_eq_true,if_true,Bool.false_or];cases cmpI .gtr (d.names.length:Int) 0 <;> rfl
  ·
   unfold xw;rw[zL,if_neg (by simp)]
 have e1:qO x.tree=some (yf x.tree):=if_pos ht;rw[hl,obS];unfold Yd;cases hc:inR x.clock 0 200 with
 |
  true=>
  rw[Jc hc];cases x.dirs.any (plain x.clock) with
  | true=>cases yf x.tree <;> rfl
  |
   false=>
   rw[if_neg (by decide),Sum.elim_inl,e1,obS,Z2,hc,XU h,ya,obS,ya,obS];cases yf x.tree with
   | false=>rfl
   | true=>cases jl 200 12 x.dirs <;> rfl
 |
  false=>
  cases x.dirs.any (plain x.clock) with
  | true=>cases yf x.tree <;> rfl
  |
   false=>
   rw[if_neg (by decide),Sum.elim_inl,e1,obS,Z2,hc,XU h,ya,obS,ya,obS];cases yf x.tree <;> rfl
theorem Cut_eq{s:Str}(hs:s.l.length<=4611686018427387904):∃ a b,Zk s ⟨[46]⟩=some ((((zD s dot)[0]?).getD yG),a,b):=by
 have hge:=Lib.indexByte_ge s.l 46;unfold Zk xi;rw[show yS s ⟨[46]⟩=some (Lib.indexByte s.l 46) from rfl,obS,XP];cases hc:cmpI .geq (Lib.indexByte s.l 46) 0 with
 |
  false=>
  rw[if_neg (by decide),obS];have h0:Lib.indexByte s.l 46<0:=by have:=of_decide_eq_false hc;omega
  have h1:cutF dot s.l=[s.l]:=Ya 46 s.l h0;rw[h1];exact⟨_,_,rfl⟩
 |
  true=>
  have h0:0<=Lib.indexByte s.l 46:=oD hc;obtain⟨h1,h2⟩:=Yb 46 s.l h0;obtain⟨n,hn⟩:∃ n:Nat,Lib.indexByte s.l 46=n:=⟨_,(Int.toNat_of_nonneg h0).symm⟩;rw[hn] at h1 h2 ⊢;have h3:cutF dot s.l=s.l.take n::cutF 46 (s.l.drop (n+1)):=h2;have hl:n+1<=s.l.length:=by omega
  rw[if_pos rfl,QC (by omega),obS,show((n:Int)+((⟨[46]⟩:Str).l.length:Int))=((n:Int)+1) from rfl,ZT (by omega) (by omega),obS,show((n:Int)+1)=((n+1:Nat):Int) from rfl,QD hl,obS,obS,h3];exact⟨_,_,rfl⟩
def Wx(s p:Str):Str:=if p=yG then s else⟨s.l.drop (p.l.length+1)⟩
def Ys(s p:Str):Str:=((zD (Wx s p) dot)[0]?).getD yG
theorem QG(s p:Str):(Wx s p).l.length<=s.l.length:=by
 unfold Wx;split
 ·
  exact Nat.le_refl _
 ·
  rw[List.length_drop];omega
theorem XV(s p:Str):(zD (Wx s p) dot)[0]?=some (Ys s p)/\(Ys s p).l.length<=s.l.length+1:=by
 obtain⟨x,hx,hm⟩:=Zq (split_ne (Wx s p) dot);have h1:Ys s p=x:=by unfold Ys;rw[hx];rfl
 have h2:=zav hm;have h3:=QG s p;rw[h1];exact⟨hx,by omega⟩
theorem below_eq{s p:Str}(h:p=yG\/p.l.length+1<=s.l.length)(hs:s.l.length<=1048576):
  (if(decide (p≠(⟨[]⟩:Str)))=true then((i64 ((p.l.length:Int)+(1:Int))).bind λ v51=>(cutLO s v51).bind λ v52=>some v52) else(some s))=some (Wx s p):=by
 unfold Wx yG;by_cases he:p=⟨[]⟩
 ·
  rw[if_neg (by simp[he]),if_pos he]
 ·
  have h2:p.l.length+1<=s.l.length:=h.resolve_left he;rw[if_pos (by simp[he]),if_neg he,zH (by omega),obS,QD h2];rfl
theorem zaF{s p:Str}(hu:under s p=true)(hne:s≠p):p=yG\/p.l.length+1<=s.l.length:=by
 unfold under at hu;rw[Bool.or_eq_true,Bool.or_eq_true,Bool.and_eq_true] at hu;rcases hu with(h | h) | h
 ·
  exact .inl (oD h)
 ·
  exact absurd (oD h) hne
 ·
  have:=oD h.1;exact .inr (by omega)
theorem firstBelow_eq{s p:Str}(h:p=yG\/p.l.length+1<=s.l.length)(hs:s.l.length<=1048576):jd s p=some (Ys s p):=by
 unfold jd;have hl:=QG s p;rw[below_eq h hs,obS,show jv (Wx s p) (UInt8.ofNat 46)=some (zD (Wx s p) dot) from if_pos (by unfold mid;omega),obS];rw[show atI (zD (Wx s p) dot) (0:Int)=some (Ys s p) from(zY _ 0).trans (XV s p).1];rfl
def star:Str:=⟨[42]⟩
def qK(r:Int)(p:Str)(f:File):List Str:=
 if cmpI .neq f.root r=true then[] else if f.pkg=p then[if f.init=true then star else f.name] else if(zF f.pkg&&under f.pkg p)=true then[⟨(Ys f.pkg p).l++[47]⟩] else[]
theorem items_len(r:Int)(p:Str)(f:File):(qK r p f).length<=1:=by
 unfold qK;split
 ·
  simp
 ·
  split
  ·
   simp
  ·
   split <;> simp
theorem Qb(r:Int)(p:Str)(l:List File):(l.flatMap (qK r p)).length<=l.length:=by
 induction l with
 | nil=>exact Nat.le_refl _
 | cons f l ih=>have:=items_len r p f;rw[List.flatMap_cons,List.length_append,List.length_cons];omega
theorem rows_next{r:Int}{p:Str}{l:List File}{k:Nat}{f:File}(hf:l[k]?=some f):(l.take (k+1)).flatMap (qK r p)=(l.take k).flatMap (qK r p)++qK r p f:=by
 rw[List.take_add_one,hf,List.flatMap_append];simp
theorem listDir_eq{t:Tree}(ht:jf t)(hv:yf t=true){r:Int}{p:Str}(hp:zr p=true):qH t r p=some (Yc (t.files.flatMap (qK r p))):=by
 unfold qH;have hlen:=Xi hv;have hpl:=yC hp;have hrl:=Qb r p t.files;have hl:zJ (λ s5=>x6 t r p s5) ([],(0:Int))=some (t.files.flatMap (qK r p)):=by
  refine WI (b:=t.files.flatMap (qK r p)) t.files.length (λ k=>((t.files.take k).flatMap (qK r p),(k:Int))) (λ k hk=>?_) (by unfold x6;simp only;rw[zL,if_neg (by simp),List.take_length]) (by omega) rfl;obtain⟨f,hf,hm⟩:=Zq hk;have h1:=Qb r p (t.files.take k);rw[List.length_take] at h1;have hsm:=ht.2 f hm;rw[rows_next hf];unfold x6;simp only;rw[zL,if_pos (decide_eq_true hk),zY,hf,obS,zH (k:=k) (by omega)];generalize (t.files.take k).flatMap (qK r p)=out at h1 ⊢;have happ:∀ x:Str,appO 16 out [x]=some (out++[x]):=λ x=>Zx (by simp;omega) (by simp;omega)
  have nf:¬ (false=true):=by decide
  have pt:(true=true):=rfl;unfold qK;cases cmpI .neq f.root r with
  | true=>rw[if_pos pt,if_pos pt,List.append_nil];rfl
  |
   false=>
   rw[if_neg nf,if_neg nf];by_cases hpk:f.pkg=p
   ·
    rw[if_pos (decide_eq_true hpk),if_pos hpk,happ,happ];cases f.init <;> rfl
   ·
    rw[if_neg (by simp[hpk]),if_neg hpk,zaw hsm.shop (by omega),obS,hp,Bool.and_true];cases hu:zF f.pkg&&under f.pkg p with
    | false=>rw[if_neg nf,if_neg nf,List.append_nil];rfl
    |
     true=>
     rw[Bool.and_eq_true] at hu;have hnl:=qb hu.1;have hbl:=QG f.pkg p;obtain⟨a,b,hc⟩:=Cut_eq (s:=Wx f.pkg p) (by omega);have hfl:=(XV f.pkg p).2;rw[if_pos pt,if_pos pt,below_eq (zaF hu.2 hpk) (by omega),obS,hc,obS];show Option.bind (Option.bind (catO (Ys f.pkg p) ⟨[47]⟩) _) _=_;rw[Yx (by show(Ys f.pkg p).l.length+1<=_;omega),obS,happ];rfl
 rw[hl,obS,sorted_eq (by omega),obS]
theorem Qc{s:Str}(h:zr s=true):zF s=decide (s≠(⟨[]⟩:Str)):=by
 unfold zr at h;by_cases he:s=yG
 ·
  rw[he,Zy];rfl
 ·
  have:zF s=true:=by simpa[he] using h
  rw[this];exact(decide_eq_true he).symm
theorem zaG{f:File}(h:yA f=true)(hi:f.init=false):f.name≠⟨[]⟩:=by
 unfold yA at h;split at h
 ·
  cases h
 ·
  rw[hi,if_neg (by decide),Bool.and_eq_true] at h;have:=(qa h.1).1;intro e;rw[e] at this;simp at this
theorem listing_eq{t:Tree}(ht:jf t)(hv:yf t=true){r:Int}{p:Str}(hp:zr p=true):qI t r p=some (Yc (t.files.flatMap (qK r p))):=by
 unfold qI;have hlen:=Xi hv;have hpl:=yC hp;have hl:zJ (λ s5=>x8 t r p s5) ([],(0:Int))=some ((t.files.flatMap (qK r p)).foldl xC []):=by
  refine WI (b:=(t.files.flatMap (qK r p)).foldl xC []) t.files.length (λ k=>(((t.files.take k).flatMap (qK r p)).foldl xC [],(k:Int))) (λ k hk=>?_) (by unfold x8;simp only;rw[zL,if_neg (by simp),List.take_length]) (by omega) rfl;obtain⟨f,hf,hm⟩:=Zq hk;have h1:=Qb r p (t.files.take k);have h2:=insertAll_len ((t.files.take k).flatMap (qK r p)) [];rw[List.length_take] at h1;rw[List.length_nil] at h2;have hsm:=ht.2 f hm;have hvf:=YT hv hm;have hvp:=Xh hvf;rw[rows_next hf,List.foldl_append];unfold x8;simp only;rw[zL,if_pos (decide_eq_true hk),zY,hf,obS,zH (k:=k) (by omega)];generalize ((t.files.take k).flatMap (qK r p)).foldl xC []=out at h2 ⊢;have hins:∀ x:Str,qj out x=some (xC out x):=λ x=>if_pos (by omega)
  have nf:¬ (false=true):=by decide
  have pt:(true=true):=rfl;unfold qK;cases cmpI .neq f.root r with
  | true=>rw[if_pos pt,if_pos pt];rfl
  |
   false=>
   rw[if_neg nf,if_neg nf];by_cases hpk:f.pkg=p
   ·
    rw[decide_eq_true hpk,if_pos hpk];cases hi:f.init with
    | true=>rw[show(true&&true)=true from rfl,if_pos pt,if_pos pt,obS,if_pos (show decide ((⟨[42]⟩:Str)≠⟨[]⟩)=true from rfl),hins];rfl
    |
     false=>
     rw[show(true&&false)=false from rfl,if_neg nf,if_neg nf,if_pos pt,obS,if_pos (decide_eq_true (zaG hvf hi)),hins];rfl
   ·
    rw[decide_eq_false hpk,if_neg hpk,show(false&&f.init)=false from rfl,if_neg nf,if_neg nf,Qc hvp,show Yw f.pkg p=some (under f.pkg p) from if_pos (by omega)];cases he:decide (f.pkg≠(⟨[]⟩:Str)) with
    | false=>rfl
    |
     true=>
     rw[show((true:Bool) == true)=true from rfl,Zw,obS,Bool.true_and];cases hu:under f.pkg p with
     | false=>rfl
     |
      true=>
      have hnl:=yC hvp;have hfl:=(XV f.pkg p).2;rw[if_pos pt,if_pos pt,firstBelow_eq (zaF hu hpk) (by omega),obS,Yx (by show(Ys f.pkg p).l.length+1<=_;omega),obS,obS,if_pos (by simp),hins];rfl
 rw[hl];show some _=_
 congr 1
 refine asc_ext (insertAll_asc List.Pairwise.nil) (XQ _).1 λ x=>?_
 rw[insertAll_iff,(XQ _).2];simp
def stamp(d:Disk)(x:Dir):Int:=(jH d x.root x.pkg).getD 0
def dirK(l:List Dir)(r:Int)(p:Str):Option Nat:=l.findIdx? (Zt r p)
theorem WM{r:Int}{p:Str}{d:Dir}:Zt r p d=true ↔ d.root=r/\d.pkg=p:=by simp[Zt,cmpI]
theorem YE{l:List Dir}{r:Int}{p:Str}{k:Nat}(h:dirK l r p=some k):k<l.length/\l[k]?=some (l.getD k default)/\(l.getD k default).root=r/\(l.getD k default).pkg=p:=by
 obtain⟨hk,h1,_⟩:=List.findIdx?_eq_some_iff_getElem.1 h;have e:l.getD k default=l[k]:=by simp[List.getD_eq_getElem?_getD,List.getElem?_eq_getElem hk]
 rw[e];exact⟨hk,List.getElem?_eq_getElem hk,WM.1 h1⟩
theorem dirK_none{l:List Dir}{r:Int}{p:Str}(h:dirK l r p=none):∀ x∈l,¬ (x.root=r/\x.pkg=p):=λ x hx hk=>by
 have:=List.findIdx?_eq_none_iff.1 h x hx;rw[WM.2 hk] at this;cases this
def XW(d:Disk)(r:Int)(p:Str):Int:=match dirK d.dirs r p with | some k=>(d.dirs.getD k default).stamp | none=>0
def listL(t:Tree)(r:Int)(p:Str):List Str:=Yc (t.files.flatMap (qK r p))
def upI(n:Int):Int:=if n+1<=1000 then n+1 else 1000
def Z3(d:Disk)(r:Int)(p:Str):Dir:=⟨r,p,XW d r p,listL d.tree r p⟩
def wl(f:Finder)(d:Disk)(r:Int)(p:Str):Finder×List Str:=
 match dirK f.dirs r p with
 |
  some k=>if(f.dirs.getD k default).stamp=XW d r p then(⟨f.dirs,f.fills,upI f.hits⟩,(f.dirs.getD k default).names)
  else(⟨f.dirs.set k (Z3 d r p),upI f.fills,f.hits⟩,listL d.tree r p)
 | none=>(⟨if f.dirs.length<20 then f.dirs++[Z3 d r p] else f.dirs,upI f.fills,f.hits⟩,listL d.tree r p)
def mark(s:Str):Str:=⟨s.l++[47]⟩
def ym(d:Disk)(p s:Str):Finder->List Int->List Int->Finder×Spec
 | f,acc,[]=>(f,if cmpI .gtr acc.length 0=true then⟨3,-1,acc⟩ else Jk)
 |
  f,acc,r::rs=>
  if(xB (wl f d r p).2 (mark s)&&cmpI .geq (wh d.tree.files ⟨r,child p s,⟨[]⟩,true,0,[]⟩) 0)=true then((wl f d r p).1,⟨2,wh d.tree.files ⟨r,child p s,⟨[]⟩,true,0,[]⟩,[r]⟩)
  else if(xB (wl f d r p).2 s&&cmpI .geq (wh d.tree.files ⟨r,p,s,false,0,[]⟩) 0)=true then((wl f d r p).1,⟨1,wh d.tree.files ⟨r,p,s,false,0,[]⟩,[]⟩)
  else ym d p s (wl f d r p).1 (if(xB (wl f d r p).2 (mark s)&&Yp d.tree.files r (child p s))=true then acc++[r] else acc) rs
def wN(d:Disk)(list:List Str):Nat->Finder->Spec->List Str->Finder×Spec
 | _,f,out,[]=>(f,out)
 | k,f,out,x::xs=>if(cmpI .neq out.kind 2&&cmpI .neq out.kind 3)=true then(f,Jk) else wN d list (k+1) (ym d (join (list.take k)) x f [] out.roots).1 (ym d (join (list.take k)) x f [] out.roots).2 xs
def seenL(f:Finder)(d:Disk)(path:List Int)(s:Str):Finder×Spec:=wN d (zD s dot) 0 f ⟨3,-1,path⟩ (zD s dot)
def jR(f:Finder)(d:Disk)(path:List Int)(s:Str):Finder×Spec:=
 if(((qd f&&Yd d)&&yq path)&&zF s)=true then seenL f d path s else(⟨[],0,0⟩,Jk)
def DirsOk(l:List Dir):Prop:=l.length<=20/\(∀ x∈l,inR x.root 0 2=true/\zr x.pkg=true/\inR x.stamp 0 200=true/\x.names.length<=12)/\(∀ (i j:Nat) (x y:Dir),l[i]?=some x->l[j]?=some y->i<j->¬ (x.root=y.root/\x.pkg=y.pkg))
theorem QV{l:List Dir}:jl 200 12 l=true ↔ DirsOk l:=by
 have key:∀ (k:Nat) (d:Dir),l[k]?=some d->(ZU 200 12 l k=true ↔ (inR d.root 0 2=true/\zr d.pkg=true/\inR d.stamp 0 200=true/\d.names.length<=12)/\∀ (i:Nat) (x:Dir),l[i]?=some x->i<k->¬ (x.root=d.root/\x.pkg=d.pkg)):=by
  intro k d hd;unfold ZU;rw[hd];simp only[Bool.not_eq_true',Bool.or_eq_false_iff,Bool.not_eq_false',List.any_eq_false];constructor
  ·
   rintro ⟨⟨⟨⟨a1,a2⟩,a3⟩,a4⟩,a5⟩
   refine⟨⟨a1,a2,a3,?_⟩,λ i x hx hi he=>?_⟩
   ·
    simp[cmpI] at a4;omega
   ·
    refine a5 x ?_ (WM.2 he);have:(l.take k)[i]?=some x:=by rw[List.getElem?_take,if_pos hi,hx]
    exact List.mem_of_getElem? this
  ·
   rintro ⟨⟨a1,a2,a3,a4⟩,a5⟩
   refine⟨⟨⟨⟨a1,a2⟩,a3⟩,by simp[cmpI];omega⟩,λ x hx he=>?_⟩;obtain⟨i,hi⟩:=List.getElem?_of_mem hx;have hik:i<k:=by have:=zW hi;simp at this;omega
   rw[List.getElem?_take,if_pos hik] at hi;exact a5 i x hi hik (WM.1 he)
 unfold jl DirsOk;rw[Bool.and_eq_true,List.all_eq_true];constructor
 ·
  rintro ⟨h1,h2⟩
  refine⟨by simp[cmpI] at h2;omega,λ x hx=>?_,λ i j x y hx hy hij=>?_⟩
  ·
   obtain⟨k,hk⟩:=List.getElem?_of_mem hx;exact((key k x hk).1 (h1 k (List.mem_range.2 (zW hk)))).1
  ·
   exact((key j y hy).1 (h1 j (List.mem_range.2 (zW hy)))).2 i x hx hij
 ·
  rintro ⟨h1,h2,h3⟩
  refine⟨λ k hk=>?_,by simp[cmpI];omega⟩;obtain⟨d,hd,hm⟩:=Zq (List.mem_range.1 hk);exact(key k d hd).2 ⟨h2 d hm,λ i x hx hi=>h3 i k x d hx hd hi⟩
def FindOk(f:Finder):Prop:=DirsOk f.dirs/\inR f.fills 0 1000=true/\inR f.hits 0 1000=true
theorem Xk{f:Finder}:qd f=true ↔ FindOk f:=by
 unfold qd FindOk;rw[Bool.and_eq_true,Bool.and_eq_true,QV,and_assoc]
structure DiskOk(d:Disk):Prop where
 tree:yf d.tree=true
 clock:0<=d.clock/\d.clock<=200
 dirs:jl d.clock 0 d.dirs=true
theorem Jz{d:Disk}(h:Yd d=true):DiskOk d:=by
 unfold Yd at h;rw[Bool.and_eq_true,Bool.and_eq_true] at h;have:=h.1.2;unfold inR at this;rw[Bool.and_eq_true] at this;exact⟨h.1.1,⟨oD this.1,oD this.2⟩,h.2⟩
theorem DiskOk.ok{d:Disk}(h:DiskOk d):DirsOk d.dirs:=by
 have h1:=h.dirs;rw[Jc (by unfold inR;simp[cmpI];exact h.clock),Bool.and_eq_true] at h1;exact QV.1 h1.2
theorem upI_in{n:Int}(h:inR n 0 1000=true):inR (upI n) 0 1000=true:=by
 unfold inR upI at*;rw[Bool.and_eq_true] at*;have h1:0<=n:=oD h.1;split
 ·
  exact⟨decide_eq_true (by omega),decide_eq_true (by assumption)⟩
 ·
  exact⟨by decide,by decide⟩
theorem stampL_in{d:Disk}(h:DiskOk d)(r:Int)(p:Str):inR (XW d r p) 0 200=true:=by
 unfold XW;cases hk:dirK d.dirs r p with
 | none=>exact(by decide:inR 0 0 200=true)
 |
  some k=>
  obtain⟨_,h2,_⟩:=YE hk;exact(h.ok.2.1 _ (List.mem_of_getElem? h2)).2.2.1
theorem QI{t:Tree}(h:yf t=true)(r:Int)(p:Str):(listL t r p).length<=12:=by
 have h1:=QR (t.files.flatMap (qK r p));have h2:=Qb r p t.files;have h3:=Xi h;unfold listL;omega
theorem fill_ok{f:Finder}{d:Disk}(hf:FindOk f)(hd:DiskOk d){r:Int}{p:Str}(hr:inR r 0 2=true)(hp:zr p=true):FindOk (wl f d r p).1:=by
 obtain⟨⟨h1,h2,h3⟩,h4,h5⟩:=hf;have hx:inR (Z3 d r p).root 0 2=true/\zr (Z3 d r p).pkg=true/\inR (Z3 d r p).stamp 0 200=true/\(Z3 d r p).names.length<=12:=⟨hr,hp,stampL_in hd r p,QI hd.tree r p⟩;unfold wl;cases hk:dirK f.dirs r p with
 |
  some k=>
  obtain⟨k1,k2,k3,k4⟩:=YE hk;simp only;split
  ·
   exact⟨⟨h1,h2,h3⟩,h4,upI_in h5⟩
  ·
   have hget:∀ (i:Nat) (x:Dir),(f.dirs.set k (Z3 d r p))[i]?=some x->∃ y:Dir,f.dirs[i]?=some y/\x.root=y.root/\x.pkg=y.pkg:=λ i x hi=>by
    by_cases e:k=i
    ·
     subst e;rw[List.getElem?_set_self k1] at hi;injection hi with hi;subst hi;exact⟨_,k2,k3.symm,k4.symm⟩
    ·
     rw[List.getElem?_set_ne e] at hi;exact⟨x,hi,rfl,rfl⟩
   refine⟨⟨by simpa using h1,λ x hm=>?_,λ i j x y hi hj hij he=>?_⟩,upI_in h4,h5⟩
   ·
    rcases List.mem_or_eq_of_mem_set hm with hm | rfl
    ·
     exact h2 x hm
    ·
     exact hx
   ·
    obtain⟨x',a1,a2,a3⟩:=hget i x hi;obtain⟨y',b1,b2,b3⟩:=hget j y hj;exact h3 i j x' y' a1 b1 hij ⟨by rw[← a2,← b2];exact he.1,by rw[← a3,← b3];exact he.2⟩
 |
  none=>
  have hno:=dirK_none hk;refine⟨?_,upI_in h4,h5⟩;show DirsOk (if f.dirs.length<20 then f.dirs++[Z3 d r p] else f.dirs);split
  ·
   refine⟨by simp;omega,λ x hm=>?_,λ i j x y hi hj hij he=>?_⟩
   ·
    rcases List.mem_append.1 hm with hm | hm
    ·
     exact h2 x hm
    ·
     rw[List.mem_singleton.1 hm];exact hx
   ·
    have hjl:=zW hj;simp only[List.length_append,List.length_singleton] at hjl;rw[List.getElem?_append_left (by omega)] at hi;by_cases e:j<f.dirs.length
    ·
     rw[List.getElem?_append_left e] at hj;exact h3 i j x y hi hj hij he
    ·
     have e2:j=f.dirs.length:=by omega
     subst e2;rw[List.getElem?_append_right (Nat.le_refl _)] at hj;simp only[Nat.sub_self,List.getElem?_cons_zero] at hj;injection hj with hj;subst hj;exact hno x (List.mem_of_getElem? hi) he
  ·
   exact⟨h1,h2,h3⟩
theorem runK_ok{d:Disk}(hd:DiskOk d){p s:Str}(hp:zr p=true):∀ (rs acc:List Int) (f:Finder),FindOk f->(∀ r∈rs,inR r 0 2=true)->(∀ r∈acc,inR r 0 2=true)->FindOk (ym d p s f acc rs).1/\∀ r∈(ym d p s f acc rs).2.roots,inR r 0 2=true
 |
  [],acc,f,h,_,ha=>by
  unfold ym;refine⟨h,?_⟩;simp only;split
  ·
   exact ha
  ·
   intro r hr;cases hr
 |
  r::rs,acc,f,h,hr,ha=>by
  have h1:=fill_ok h hd (hr r (by simp)) hp;unfold ym;split
  ·
   exact⟨h1,λ x hx=>by rw[List.mem_singleton.1 hx];exact hr r (by simp)⟩
  ·
   split
   ·
    exact⟨h1,λ x hx=>by cases hx⟩
   ·
    refine runK_ok hd hp rs _ _ h1 (λ x hx=>hr x (by simp[hx])) λ x hx=>?_
    split at hx
    ·
     rcases List.mem_append.1 hx with hx | hx
     ·
      exact ha x hx
     ·
      rw[List.mem_singleton.1 hx];exact hr r (by simp)
    ·
     exact ha x hx
theorem restK_ok{d:Disk}(hd:DiskOk d){list:List Str}(hl:∀ k,zr (join (list.take k))=true):∀ (xs:List Str) (k:Nat) (f:Finder) (out:Spec),FindOk f->(∀ r∈out.roots,inR r 0 2=true)->FindOk (wN d list k f out xs).1
 | [],_,_,_,h,_=>h
 |
  x::xs,k,f,out,h,ho=>by
  unfold wN;split
  ·
   exact h
  ·
   obtain⟨h1,h2⟩:=runK_ok hd (hl k) (s:=x) out.roots [] f h ho λ x hx=>by cases hx
   exact restK_ok hd hl xs (k+1) _ _ h1 h2
theorem path_in{path:List Int}(h:yq path=true):∀ r∈path,inR r 0 2=true:=λ r hr=>by
 unfold yq Xd at h;rw[List.all_eq_true] at h;obtain⟨k,hk⟩:=List.getElem?_of_mem hr;have:=h k (List.mem_range.2 (zW hk));unfold XI at this;rw[hk] at this;simp only at this;cases hi:inR r 0 2 with
 | true=>rfl
 | false=>rw[hi] at this;simp at this
theorem seen_ok{f:Finder}{d:Disk}(hf:FindOk f)(hd:DiskOk d){path:List Int}{s:Str}(hp:yq path=true)(hs:zF s=true):FindOk (seenL f d path s).1:=
 restK_ok hd (WH hs) _ _ _ _ hf (path_in hp)
open Go.RowKit
theorem has_any(l:List Str)(x:Str):xB l x=l.any λ y=>decide (y=x):=by
 unfold xB textAt;rw[YS]
theorem has_spec{l:List Str}{x:Str}(h:l.length<=1048576):jp l x=some (xB l x):=by
 unfold jp Z8;have hl:zJ (λ s4=>xG l x s4) 0=some (match l.findIdx? (λ y=>decide (y=x)) with | some i=>(Sum.inr (i:Int):Unit⊕Int) | none=>Sum.inl ()):=by
  refine Xz l (λ y=>decide (y=x)) (λ i=>Sum.inr i) _ (λ k y hx hlt=>?_) ?_ (by omega) rfl
  ·
   unfold xG;rw[zL,if_pos (decide_eq_true hlt),zY,hx,obS,zH (by omega)];cases decide (y=x) <;> rfl
  ·
   unfold xG;rw[zL,if_neg (by simp)]
 have e:Option.bind (α:=Unit⊕Int) (zJ (λ s4=>xG l x s4) 0) (Sum.elim (λ _=>some (-1)) some)=some (qV (λ y=>decide (y=x)) l):=by
  rw[hl];unfold qV;cases l.findIdx? (λ y=>decide (y=x)) <;> rfl
 rw[e,obS];rfl
theorem has_impl{l:List Str}{x:Str}(h:l.length<=1048576):zX l x=some (xB l x):=by
 unfold zX yT;have hl:zJ (λ s4=>zT l x s4) 0=some (match l.findIdx? (λ y=>decide (x=y)) with | some i=>(Sum.inr (i:Int):Unit⊕Int) | none=>Sum.inl ()):=by
  refine Xz l (λ y=>decide (x=y)) (λ i=>Sum.inr i) _ (λ k y hx hlt=>?_) ?_ (by omega) rfl
  ·
   unfold zT;rw[zL,if_pos (decide_eq_true hlt),zY,hx,obS,zH (by omega)];cases decide (x=y) <;> rfl
  ·
   unfold zT;rw[zL,if_neg (by simp)]
 have e:Option.bind (α:=Unit⊕Int) (zJ (λ s4=>zT l x s4) 0) (Sum.elim (λ _=>some (-1)) some)=some (qV (λ y=>decide (x=y)) l):=by
  rw[hl];unfold qV;cases l.findIdx? (λ y=>decide (x=y)) <;> rfl
 rw[e,obS,YS,has_any]
 congr 2
 funext y
 rw[decide_eq_decide];exact eq_comm
theorem dirK_idx(l:List Dir)(r:Int)(p:Str):qV (Zt r p) l=match dirK l r p with | some i=>((i:Nat):Int) | none=>-1:=rfl
theorem DirsOk.sm{l:List Dir}(h:DirsOk l):l.length<=1048576:=by have:=h.1;omega
theorem FindOk.sm{f:Finder}(h:FindOk f):f.dirs.length<=1048576:=h.1.sm
theorem DiskOk.sm{d:Disk}(h:DiskOk d):d.dirs.length<=1048576:=h.ok.sm
theorem inR_ge{n a b:Int}(h:inR n a b=true):a<=n/\n<=b:=by
 unfold inR at h;rw[Bool.and_eq_true] at h;exact⟨oD h.1,oD h.2⟩
theorem stampL_eq{d:Disk}{r:Int}{p:Str}(h:d.dirs.length<=1048576):qG d r p=some (XW d r p)/\jH d r p=some (XW d r p):=by
 unfold qG jH;rw[dirAt_eq h,QF h,obS,dirK_idx];unfold XW;cases hk:dirK d.dirs r p with
 | none=>exact⟨rfl,rfl⟩
 |
  some k=>
  obtain⟨_,h2,_⟩:=YE hk;have hc:cmpI .lss ((k:Nat):Int) 0=false:=by simp[cmpI]
  simp only;rw[hc,if_neg (by decide),zY,h2];exact⟨rfl,rfl⟩
theorem upI_a{n:Int}:(if(1000:Int)<n+1 then(1000:Int) else n+1)=upI n:=by unfold upI;split <;> split <;> omega
theorem upI_b{n:Int}:(if n+1<(1000:Int) then n+1 else(1000:Int))=upI n:=by unfold upI;split <;> split <;> omega
theorem zaH{f:Finder}{d:Disk}(hf:FindOk f)(hd:DiskOk d)(r:Int)(p:Str):(wl f d r p).2.length<=12:=by
 have hl:=QI hd.tree r p;unfold wl;cases hk:dirK f.dirs r p with
 | none=>exact hl
 |
  some k=>
  obtain⟨_,h2,_⟩:=YE hk;simp only;split
  ·
   exact(hf.1.2.1 _ (List.mem_of_getElem? h2)).2.2.2
  ·
   exact hl
section
variable{f:Finder}{d:Disk}{r:Int}{p:Str}
theorem ask_eq(hf:FindOk f)(hd:DiskOk d)(ht:jf d.tree)(hp:zr p=true):ja f d r p=some (wl f d r p):=by
 have hfl:=hf.1.1;have hfi:=inR_ge hf.2.1;have hhi:=inR_ge hf.2.2;unfold ja;rw[(stampL_eq hd.sm).1,obS,dirAt_eq hf.sm,obS,dirK_idx,ZT (n:=f.hits+1) (by omega) (by omega),ZT (n:=f.fills+1) (by omega) (by omega),listDir_eq ht hd.tree hp];simp only[obS,upI_a];unfold wl;cases hk:dirK f.dirs r p with
 |
  none=>
  simp only;rw[show cmpI .geq (-1:Int) 0=false from rfl,show((false:Bool) == true)=false from rfl,gO_false,obS,Bool.false_and,if_neg (by decide),if_neg (by decide)];by_cases hl:f.dirs.length<20
  ·
   rw[if_pos (by simp[cmpI];omega),Zx (by simp;omega) (by simp;omega),if_pos hl];rfl
  ·
   rw[if_neg (by simp[cmpI];omega),if_neg hl];rfl
 |
  some k=>
  obtain⟨h1,h2,h3,h4⟩:=YE hk;have hc:cmpI .geq ((k:Nat):Int) 0=true:=by simp[cmpI]
  simp only;rw[hc,show((true:Bool) == true)=true from rfl,Zw,zY,h2,obS,Bool.true_and];generalize f.dirs.getD k default=x at h2 h3 h4 ⊢;by_cases hs:x.stamp=XW d r p
  ·
   rw[if_pos (by simp[cmpI,hs]),if_pos hs,obS]
  ·
   rw[if_neg (by simp[cmpI,hs]),if_neg hs,if_pos rfl];rfl
theorem filled_eq(hf:FindOk f)(hd:DiskOk d)(ht:jf d.tree)(hp:zr p=true):Zm f d r p=some (wl f d r p):=by
 have hfl:=hf.1.1;have hfi:=inR_ge hf.2.1;have hhi:=inR_ge hf.2.2;unfold Zm;rw[(stampL_eq hd.sm).2,QF hf.sm,obS,dirK_idx,obS,ZT (n:=f.hits+1) (by omega) (by omega),ZT (n:=f.fills+1) (by omega) (by omega),listing_eq ht hd.tree hp];simp only[obS,upI_b];unfold wl;cases hk:dirK f.dirs r p with
 |
  none=>
  simp only;rw[show cmpI .geq (-1:Int) 0=false from rfl,show((false:Bool) == true)=false from rfl,gO_false,obS,Bool.false_and,if_neg (by decide),if_neg (by decide)];by_cases hl:f.dirs.length<20
  ·
   rw[if_pos (by simp[cmpI];omega),Zx (by simp;omega) (by simp;omega),if_pos hl];rfl
  ·
   rw[if_neg (by simp[cmpI];omega),if_neg hl];rfl
 |
  some k=>
  obtain⟨h1,h2,h3,h4⟩:=YE hk;have hc:cmpI .geq ((k:Nat):Int) 0=true:=by simp[cmpI]
  simp only;rw[hc,show((true:Bool) == true)=true from rfl,Zw,zY,h2,obS,Bool.true_and];generalize f.dirs.getD k default=x at h2 h3 h4 ⊢;by_cases hs:x.stamp=XW d r p
  ·
   rw[if_pos (by simp[cmpI,hs]),if_pos hs,obS]
  ·
   rw[if_neg (by simp[cmpI,hs]),if_neg hs,if_pos rfl];rfl
end
def Y7(d:Disk)(p s:Str){β:Type}(out:Finder×Spec->β)(σ:Finder×List Int)(r:Int):(Finder×List Int)⊕β:=
 if(xB (wl σ.1 d r p).2 (mark s)&&cmpI .geq (wh d.tree.files ⟨r,child p s,⟨[]⟩,true,0,[]⟩) 0)=true then .inr (out ((wl σ.1 d r p).1,⟨2,wh d.tree.files ⟨r,child p s,⟨[]⟩,true,0,[]⟩,[r]⟩))
 else if(xB (wl σ.1 d r p).2 s&&cmpI .geq (wh d.tree.files ⟨r,p,s,false,0,[]⟩) 0)=true then .inr (out ((wl σ.1 d r p).1,⟨1,wh d.tree.files ⟨r,p,s,false,0,[]⟩,[]⟩))
 else .inl ((wl σ.1 d r p).1,if(xB (wl σ.1 d r p).2 (mark s)&&Yp d.tree.files r (child p s))=true then σ.2++[r] else σ.2)
theorem runL_K{d:Disk}{p s:Str}{β γ:Type}(out:Finder×Spec->β)(fin:Finder×List Int->β)(E:β->γ)(F:Finder×Spec->γ)(h1:∀ q,E (out q)=F q)(h2:∀ σ:Finder×List Int,E (fin σ)=F (σ.1,if cmpI .gtr σ.2.length 0=true then⟨3,-1,σ.2⟩ else Jk)):
  ∀ (rs:List Int) (k:Nat) (f:Finder) (acc:List Int),E (runL (λ _ σ r=>Y7 d p s out σ r) fin k (f,acc) rs)=F (ym d p s f acc rs):=by
 intro rs
 induction rs with
 | nil=>intro k f acc;unfold ym;rw[runL];exact h2 _
 |
  cons r rs ih=>
  intro k f acc;unfold ym;rw[runL];unfold Y7;simp only;cases(xB (wl f d r p).2 (mark s)&&cmpI .geq (wh d.tree.files ⟨r,child p s,⟨[]⟩,true,0,[]⟩) 0) with
  | true=>exact h1 _
  |
   false=>
   cases(xB (wl f d r p).2 s&&cmpI .geq (wh d.tree.files ⟨r,p,s,false,0,[]⟩) 0) with
   | true=>exact h1 _
   | false=>exact ih _ _ _
section
variable{f:Finder}{d:Disk}{p s:Str}{roots:List Int}
theorem find_k_eq(hf:FindOk f)(hd:DiskOk d)(ht:jf d.tree)(hr:roots.length<=1048576)(hin:∀ r∈roots,inR r 0 2=true)(hp:zr p=true)(hs:zN s=true)(hc:zF (child p s)=true):Zl d d.tree roots p s f=some (ym d p s f [] roots):=by
 have hpl:=yC hp;have hsl:=(qa hs).2;have hcl:=qb hc;have hne:=child_ne hc;have hcp:zr (child p s)=true:=by unfold zr;rw[hc,Bool.or_true]
 have he:Y4 p s=child p s:=by unfold Y4;rw[hp,hs,hc];rfl
 have hg:Good d.tree:=⟨ht,hd.tree⟩;unfold Zl;rw[Jx (by omega),he,obS,if_neg (by simp only[decide_eq_true_eq];exact hne)];have hl:zJ (λ s19=>xM d d.tree roots p s (child p s) s19) (f,zE,[],(0:Int))=some (runL (λ _ σ r=>Y7 d p s (Sum.inr (α:=Finder×Spec×List Int)) σ r) (λ σ=>Sum.inl (σ.1,zE,σ.2)) 0 (f,[]) roots):=by
  refine Wq (σ:=Finder×List Int) roots (λ σ k=>(σ.1,zE,σ.2,(k:Int))) _ _ (λ k σ=>FindOk σ.1/\σ.2.length<=k) (λ k σ r hx hlt hi=>?_) (λ σ _=>?_) (s0:=(f,[])) ⟨hf,Nat.le_refl 0⟩ (by omega)
  ·
   obtain⟨hfo,hal⟩:=hi;have hri:=hin r (List.mem_of_getElem? hx);have hfo2:=fill_ok hfo hd hri hp;have hnl:=zaH hfo hd r p;have hst:xM d d.tree roots p s (child p s) (σ.1,zE,σ.2,(k:Int))=(match Y7 d p s (Sum.inr (α:=Finder×Spec×List Int)) σ r with
     | .inl σ'=>some (.inl (σ'.1,zE,σ'.2,((k+1:Nat):Int))) | .inr b=>some (.inr b)):=by
    unfold xM jk;dsimp only;have hcat:catO s ⟨[47]⟩=some (mark s):=Yx (by show s.l.length+1<=_;omega);have happ:appO 8 σ.2 [r]=some (σ.2++[r]):=Zx (by simp;omega) (by simp;omega);have hn2:(wl σ.1 d r p).2.length<=1048576:=by omega
    rw[zL,if_pos (decide_eq_true hlt),zY,hx,obS,if_pos rfl,ask_eq hfo hd ht hp,obS,obS,hcat,obS];dsimp only;rw[has_impl hn2,obS,has_impl hn2,obS,obS,fileAt_eq hg.len,obS,fileAt_eq hg.len,obS,hasDir_eq ht hg.pkg hcp (by omega),zH (by omega)];rw[ya,obS,happ];unfold Y7;generalize xB (wl σ.1 d r p).2 (mark s)=b0;generalize xB (wl σ.1 d r p).2 s=b3;generalize cmpI .geq (wh d.tree.files ⟨r,child p s,⟨[]⟩,true,0,[]⟩) 0=b1;generalize cmpI .geq (wh d.tree.files ⟨r,p,s,false,0,[]⟩) 0=b2;generalize Yp d.tree.files r (child p s)=b4;cases b0 <;> cases b1 <;> cases b2 <;> cases b3 <;> cases b4 <;> rfl
   rw[hst];have hinv:∀ σ',Y7 d p s (Sum.inr (α:=Finder×Spec×List Int)) σ r=.inl σ'->FindOk σ'.1/\σ'.2.length<=k+1:=λ σ' h=>by
    unfold Y7 at h;split at h
    ·
     cases h
    ·
     split at h
     ·
      cases h
     ·
      injection h with h;subst h;refine⟨hfo2,?_⟩;dsimp only;split
      ·
       simp;omega
      ·
       omega
   cases hsk:Y7 d p s (Sum.inr (α:=Finder×Spec×List Int)) σ r with
   | inl σ'=>exact⟨rfl,hinv σ' hsk⟩
   | inr b=>rfl
  ·
   unfold xM;dsimp only;rw[zL,if_neg (by simp)]
 rw[hl,obS];exact runL_K (Sum.inr (α:=Finder×Spec×List Int)) (λ σ=>Sum.inl (σ.1,zE,σ.2)) (Sum.elim (λ b17=>if(cmpI .gtr (b17.2.2.length:Int) (0:Int))=true then(some (b17.1,(⟨(3:Int),(-1:Int),b17.2.2⟩:Spec))) else((jt).bind λ v96=>some (b17.1,v96))) some) some (λ _=>rfl) (λ σ=>by
  simp only[Sum.elim_inl];split <;> rfl) roots 0 f []
theorem seenIn_eq(hf:FindOk f)(hd:DiskOk d)(ht:jf d.tree)(hr:roots.length<=1048576)(hin:∀ r∈roots,inR r 0 2=true)(hp:zr p=true)(hs:zN s=true)(hc:zF (child p s)=true):Zn f d roots p s=some (ym d p s f [] roots):=by
 have hpl:=yC hp;have hsl:=(qa hs).2;have hcl:=qb hc;have hch:ZP p s=some (child p s):=if_pos (by omega);have hfa:∀ g,q9 d.tree g=some (wh d.tree.files g):=λ g=>if_pos trivial
 have hhd:∀ r,Z9 d.tree r (child p s)=some (Yp d.tree.files r (child p s)):=λ r=>if_pos (by omega)
 unfold Zn;have hl:zJ (λ s14=>xP d roots p s s14) (f,zo,zE,[],(0:Int))=some (runL (λ _ σ r=>Y7 d p s (Sum.inr (α:=Finder×Finder×Spec×List Int)) σ r) (λ σ=>Sum.inl (σ.1,zo,zE,σ.2)) 0 (f,[]) roots):=by
  refine Wq (σ:=Finder×List Int) roots (λ σ k=>(σ.1,zo,zE,σ.2,(k:Int))) _ _ (λ k σ=>FindOk σ.1/\σ.2.length<=k) (λ k σ r hx hlt hi=>?_) (λ σ _=>?_) (s0:=(f,[])) ⟨hf,Nat.le_refl 0⟩ (by omega)
  ·
   obtain⟨hfo,hal⟩:=hi;have hri:=hin r (List.mem_of_getElem? hx);have hfo2:=fill_ok hfo hd hri hp;have hnl:=zaH hfo hd r p;have hst:xP d roots p s (σ.1,zo,zE,σ.2,(k:Int))=(match Y7 d p s (Sum.inr (α:=Finder×Finder×Spec×List Int)) σ r with
     | .inl σ'=>some (.inl (σ'.1,zo,zE,σ'.2,((k+1:Nat):Int))) | .inr b=>some (.inr b)):=by
    unfold xP;dsimp only;have hcat:catO s ⟨[47]⟩=some (mark s):=Yx (by show s.l.length+1<=_;omega);have happ:appO 8 σ.2 [r]=some (σ.2++[r]):=Zx (by simp;omega) (by simp;omega);have hn2:(wl σ.1 d r p).2.length<=1048576:=by omega
    rw[zL,if_pos (decide_eq_true hlt),zY,hx,obS,filled_eq hfo hd ht hp,obS,hcat,obS,has_spec hn2,obS,obS,hch,obS,hfa,obS,obS,obS,hfa,obS,has_spec hn2,obS,zH (by omega)];unfold Y7;generalize xB (wl σ.1 d r p).2 (mark s)=b0;generalize xB (wl σ.1 d r p).2 s=b3;generalize cmpI .geq (wh d.tree.files ⟨r,child p s,⟨[]⟩,true,0,[]⟩) 0=b1;generalize cmpI .geq (wh d.tree.files ⟨r,p,s,false,0,[]⟩) 0=b2;cases b0
    ·
     cases b1 <;> cases b2 <;> cases b3 <;> rfl
    ·
     simp only[beq_self_eq_true,Zw,obS,hhd,happ];generalize Yp d.tree.files r (child p s)=b4;cases b1 <;> cases b2 <;> cases b3 <;> cases b4 <;> rfl
   rw[hst];have hinv:∀ σ',Y7 d p s (Sum.inr (α:=Finder×Finder×Spec×List Int)) σ r=.inl σ'->FindOk σ'.1/\σ'.2.length<=k+1:=λ σ' h=>by
    unfold Y7 at h;split at h
    ·
     cases h
    ·
     split at h
     ·
      cases h
     ·
      injection h with h;subst h;refine⟨hfo2,?_⟩;dsimp only;split
      ·
       simp;omega
      ·
       omega
   cases hsk:Y7 d p s (Sum.inr (α:=Finder×Finder×Spec×List Int)) σ r with
   | inl σ'=>exact⟨rfl,hinv σ' hsk⟩
   | inr b=>rfl
  ·
   unfold xP;dsimp only;rw[zL,if_neg (by simp)]
 rw[hl,obS];exact runL_K (Sum.inr (α:=Finder×Finder×Spec×List Int)) (λ σ=>Sum.inl (σ.1,zo,zE,σ.2)) (Sum.elim (λ b10=>if(cmpI .gtr (b10.2.2.2.length:Int) (0:Int))=true then(some (b10.1,(⟨(3:Int),(-1:Int),b10.2.2.2⟩:Spec))) else((j0).bind λ v253=>some (b10.1,v253))) some) some (λ _=>rfl) (λ σ=>by
  simp only[Sum.elim_inl];split <;> rfl) roots 0 f []
end
theorem runK_kind{d:Disk}{p s:Str}:∀ (rs acc:List Int) (f:Finder),okKind (ym d p s f acc rs).2
 |
  [],acc,f=>by
  unfold ym;dsimp only;split
  ·
   exact .inr (.inr (.inr rfl))
  ·
   exact .inl rfl
 |
  r::rs,acc,f=>by
  unfold ym;split
  ·
   exact .inr (.inr (.inl rfl))
  ·
   split
   ·
    exact .inr (.inl rfl)
   ·
    exact runK_kind rs _ _
theorem XB{d:Disk}{p s:Str}:∀ (rs acc:List Int) (f:Finder),(ym d p s f acc rs).2.roots.length<=acc.length+rs.length
 |
  [],acc,f=>by
  unfold ym;dsimp only;split
  ·
   exact Nat.le_refl _
  ·
   exact Nat.zero_le _
 |
  r::rs,acc,f=>by
  unfold ym;split
  ·
   show 1<=acc.length+(rs.length+1);omega
  ·
   split
   ·
    exact Nat.zero_le _
   ·
    refine Nat.le_trans (XB rs _ _) ?_;split
    ·
     simp only[List.length_append,List.length_cons,List.length_nil];omega
    ·
     simp only[List.length_cons];omega
def X4(d:Disk)(list:List Str){β:Type}(out:Finder×Spec->β)(k:Nat)(σ:Finder×Spec)(x:Str):(Finder×Spec)⊕β:=
 if(cmpI .neq σ.2.kind 2&&cmpI .neq σ.2.kind 3)=true then .inr (out (σ.1,Jk)) else .inl (ym d (join (list.take k)) x σ.1 [] σ.2.roots)
theorem runL_N{d:Disk}{list:List Str}{β γ:Type}(out:Finder×Spec->β)(fin:Finder×Spec->β)(E:β->γ)(F:Finder×Spec->γ)(h1:∀ q,E (out q)=F q)(h2:∀ q,E (fin q)=F q):
  ∀ (xs:List Str) (k:Nat) (σ:Finder×Spec),E (runL (λ k σ x=>X4 d list out k σ x) fin k σ xs)=F (wN d list k σ.1 σ.2 xs):=by
 intro xs
 induction xs with
 | nil=>intro k σ;unfold wN;rw[runL];exact h2 _
 |
  cons x xs ih=>
  intro k σ;unfold wN;rw[runL];unfold X4;cases(cmpI .neq σ.2.kind 2&&cmpI .neq σ.2.kind 3) with
  | true=>exact h1 _
  | false=>exact ih _ _
section
variable{f:Finder}{d:Disk}{path:List Int}{n:Str}
theorem findName_k_eq(hf:FindOk f)(hd:DiskOk d)(ht:jf d.tree)(hp:path.length<=1048576)(hpath:yq path=true)(hn:zF n=true):jb d d.tree path n f=some (seenL f d path n):=by
 have hnl:=qb hn;obtain⟨hparts,hlen⟩:=jY hn;unfold jb;rw[PartsOf_eq (by unfold sho;omega),hn,if_pos rfl,obS];have hl:zJ (λ s16=>yx d d.tree (zD n dot) s16) (f,zE,(⟨(3:Int),(-1:Int),path⟩:Spec),(⟨[]⟩:Str),(0:Int))=some (runL (λ k σ x=>X4 d (zD n dot) (Sum.inr (α:=Finder×Spec×Spec)) k σ x) (λ σ=>Sum.inl (σ.1,zE,σ.2)) 0 (f,⟨3,-1,path⟩) (zD n dot)):=by
  refine Wq (σ:=Finder×Spec) (zD n dot) (λ σ k=>(σ.1,zE,σ.2,join ((zD n dot).take k),(k:Int))) _ _ (λ k σ=>FindOk σ.1/\σ.2.roots.length<=path.length/\okKind σ.2/\∀ r∈σ.2.roots,inR r 0 2=true) (λ k σ x hx hlt hi=>?_) (λ σ _=>?_) (s0:=(f,⟨3,-1,path⟩)) ⟨hf,Nat.le_refl _,.inr (.inr (.inr rfl)),path_in hpath⟩ (by omega)
  ·
   obtain⟨hfo,hrl,hok,hin⟩:=hi;have hpre:=WH hn k;have hxv:=hparts x (List.mem_of_getElem? hx);have hch:=zaB hx hparts;have hcv:=zaA hn k;rw[hch] at hcv;have hst:yx d d.tree (zD n dot) (σ.1,zE,σ.2,join ((zD n dot).take k),(k:Int))=(match X4 d (zD n dot) (Sum.inr (α:=Finder×Spec×Spec)) k σ x with
     | .inl σ'=>some (.inl (σ'.1,zE,σ'.2,join ((zD n dot).take (k+1)),((k+1:Nat):Int))) | .inr b=>some (.inr b)):=by
    unfold yx X4;dsimp only;have hlp:=yC hpre;have hlx:=(qa hxv).2;have he:Y4 (join ((zD n dot).take k)) x=child (join ((zD n dot).take k)) x:=by unfold Y4;rw[hpre,hxv,hcv];rfl
    rw[zL,if_pos (decide_eq_true hlt),zY,hx,obS,kind_two hok,find_k_eq hfo hd ht (by omega) hin hpre hxv hcv,obS,Jx (by omega),obS,he,zH (by omega),obS,hch];cases(cmpI .neq σ.2.kind 2&&cmpI .neq σ.2.kind 3) <;> rfl
   rw[hst];cases hsk:X4 d (zD n dot) (Sum.inr (α:=Finder×Spec×Spec)) k σ x with
   |
    inl σ'=>
    refine⟨rfl,?_⟩;unfold X4 at hsk;split at hsk
    ·
     cases hsk
    ·
     injection hsk with hsk;subst hsk;have h1:=runK_ok hd hpre (s:=x) σ.2.roots [] σ.1 hfo hin λ r hr=>by cases hr
     have h2:=XB (d:=d) (p:=join ((zD n dot).take k)) (s:=x) σ.2.roots [] σ.1;exact⟨h1.1,by simp only[List.length_nil] at h2;omega,runK_kind _ _ _,h1.2⟩
   | inr b=>rfl
  ·
   unfold yx;dsimp only;rw[zL,if_neg (by simp)]
 rw[hl,obS];exact runL_N (Sum.inr (α:=Finder×Spec×Spec)) (λ σ=>Sum.inl (σ.1,zE,σ.2)) (Sum.elim (λ b12=>some (b12.1,b12.2.2)) some) some (λ _=>rfl) (λ _=>rfl) _ 0 _
theorem seen_eq(hf:FindOk f)(hd:DiskOk d)(ht:jf d.tree)(hp:path.length<=1048576)(hpath:yq path=true)(hn:zF n=true):Yl f d path n=some (seenL f d path n):=by
 have hnl:=qb hn;obtain⟨hparts,hlen⟩:=jY hn;have hsum:∀ k,xT ((zD n dot).take k)<=100:=λ k=>by
  have h1:=YJ (zD n dot) k;have h2:=XH n dot;omega
 unfold Yl;rw[show jv n (UInt8.ofNat 46)=some (zD n dot) from if_pos (by unfold mid;omega),obS];have hl:zJ (λ s22=>wD d (zD n dot) s22) (f,zo,zE,(⟨(3:Int),(-1:Int),path⟩:Spec),(0:Int))=some (runL (λ k σ x=>X4 d (zD n dot) (Sum.inr (α:=Finder×Finder×Spec×Spec)) k σ x) (λ σ=>Sum.inl (σ.1,zo,zE,σ.2)) 0 (f,⟨3,-1,path⟩) (zD n dot)):=by
  refine Wq (σ:=Finder×Spec) (zD n dot) (λ σ k=>(σ.1,zo,zE,σ.2,(k:Int))) _ _ (λ k σ=>FindOk σ.1/\σ.2.roots.length<=path.length/\∀ r∈σ.2.roots,inR r 0 2=true) (λ k σ x hx hlt hi=>?_) (λ σ _=>?_) (s0:=(f,⟨3,-1,path⟩)) ⟨hf,Nat.le_refl _,path_in hpath⟩ (by omega)
  ·
   obtain⟨hfo,hrl,hin⟩:=hi;have hpre:=WH hn k;have hxv:=hparts x (List.mem_of_getElem? hx);have hch:=zaB hx hparts;have hcv:=zaA hn k;rw[hch] at hcv;have hst:wD d (zD n dot) (σ.1,zo,zE,σ.2,(k:Int))=(match X4 d (zD n dot) (Sum.inr (α:=Finder×Finder×Spec×Spec)) k σ x with
     | .inl σ'=>some (.inl (σ'.1,zo,zE,σ'.2,((k+1:Nat):Int))) | .inr b=>some (.inr b)):=by
    unfold wD X4;dsimp only;rw[zL,if_pos (decide_eq_true hlt),WE (by omega),obS,zY,hx,obS,show Y0 ((zD n dot).take k)=some (join ((zD n dot).take k)) from if_pos (by have:=hsum k;omega),obS,seenIn_eq hfo hd ht (by omega) hin hpre hxv hcv,obS,zH (by omega),obS];cases(cmpI .neq σ.2.kind 2&&cmpI .neq σ.2.kind 3) <;> rfl
   rw[hst];cases hsk:X4 d (zD n dot) (Sum.inr (α:=Finder×Finder×Spec×Spec)) k σ x with
   |
    inl σ'=>
    refine⟨rfl,?_⟩;unfold X4 at hsk;split at hsk
    ·
     cases hsk
    ·
     injection hsk with hsk;subst hsk;have h1:=runK_ok hd hpre (s:=x) σ.2.roots [] σ.1 hfo hin λ r hr=>by cases hr
     have h2:=XB (d:=d) (p:=join ((zD n dot).take k)) (s:=x) σ.2.roots [] σ.1;exact⟨h1.1,by simp only[List.length_nil] at h2;omega,h1.2⟩
   | inr b=>rfl
  ·
   unfold wD;dsimp only;rw[zL,if_neg (by simp)]
 rw[hl,obS];exact runL_N (Sum.inr (α:=Finder×Finder×Spec×Spec)) (λ σ=>Sum.inl (σ.1,zo,zE,σ.2)) (Sum.elim (λ b18=>some (b18.1,b18.2.2.2)) some) some (λ _=>rfl) (λ _=>rfl) _ 0 _
end
theorem cloneDirs_eq{l:List Dir}(h:qf l):jF l=some l:=by
 have hlen:=h.1;unfold jF;have hl:zJ (λ s6=>xu l s6) ([],(0:Int))=some l:=by
  refine WI (b:=l) l.length (λ k=>(l.take k,(k:Int))) (λ k hk=>?_) (by unfold xu;dsimp only;rw[zL,if_neg (by simp),List.take_length]) (by omega) rfl;obtain⟨x,hx,hm⟩:=Zq hk;have hnl:=(h.2 x hm).2;have htk:(l.take k).length<=k:=by simp;omega
  unfold xu;dsimp only;rw[zL,if_pos (decide_eq_true hk),zY,hx,obS,Zx (by simp;omega) (by simp;omega),obS,Zx (by simp;omega) (by simp;omega),obS,zH (by omega),obS,List.take_add_one,hx];rfl
 rw[hl,obS]
theorem copyDirs_eq{l:List Dir}(h:qf l):jX l=some l:=by
 have hlen:=h.1;unfold jX;have hl:zJ (λ s6=>xO l s6) ([],(0:Int))=some l:=by
  refine WI (b:=l) l.length (λ k=>(l.take k,(k:Int))) (λ k hk=>?_) (by unfold xO;dsimp only;rw[zL,if_neg (by simp),List.take_length]) (by omega) rfl;obtain⟨x,hx,hm⟩:=Zq hk;have hnl:=(h.2 x hm).2;have htk:(l.take k).length<=k:=by simp;omega
  unfold xO;dsimp only;rw[zL,if_pos (decide_eq_true hk),zY,hx,obS,Zx (by simp;omega) (by simp;omega),obS,Zx (by simp;omega) (by simp;omega),obS,zH (by omega),obS,List.take_add_one,hx];rfl
 rw[hl,obS]
theorem DirsOk.smd{l:List Dir}(h:DirsOk l):qf l:=⟨h.sm,λ x hx=>by
 obtain⟨_,h2,_,h4⟩:=h.2.1 x hx;have:=yC h2;exact⟨by omega,by omega⟩⟩
theorem Wy{f:Finder}(h:qf f.dirs):xN f=some f:=by
 unfold xN;rw[cloneDirs_eq h,obS]
theorem copyFinder_eq{f:Finder}(h:qf f.dirs):je f=some f:=by
 unfold je;rw[copyDirs_eq h,obS]
theorem zaI{d:Disk}{list:List Str}:∀ (xs:List Str) (k:Nat) (f:Finder) (out:Spec),(wN d list k f out xs).2.roots.length<=out.roots.length
 | [],_,_,_=>Nat.le_refl _
 |
  x::xs,k,f,out=>by
  unfold wN;split
  ·
   exact Nat.zero_le _
  ·
   have h2:=XB (d:=d) (p:=join (list.take k)) (s:=x) out.roots [] f;have h3:=zaI (d:=d) (list:=list) xs (k+1) (ym d (join (list.take k)) x f [] out.roots).1 (ym d (join (list.take k)) x f [] out.roots).2;simp only[List.length_nil] at h2;omega
theorem QJ(f:Finder)(d:Disk)(path:List Int)(n:Str):(seenL f d path n).2.roots.length<=path.length:=zaI _ _ _ _
theorem nodup_le{α:Type}[DecidableEq α]:∀ {l m:List α},l.Nodup->(∀ x∈l,x∈m)->l.length<=m.length
 | [],_,_,_=>Nat.zero_le _
 |
  x::l,m,hn,hs=>by
  rw[List.nodup_cons] at hn;have hx:=hs x (List.mem_cons_self ..);have h1:=nodup_le (l:=l) (m:=m.erase x) hn.2 λ y hy=>(List.mem_erase_of_ne (by intro e;subst e;exact hn.1 hy)).2 (hs y (List.mem_cons_of_mem _ hy))
  have h2:=List.length_erase_of_mem hx;have h3:=List.length_pos_of_mem hx;rw[List.length_cons];omega
theorem validPath_len{path:List Int}(h:yq path=true):path.length<=3:=by
 have h1:=path_in h;have hnd:path.Nodup:=by
  refine List.pairwise_iff_getElem.2 λ i j hi hj hij=>?_
  unfold yq Xd at h;rw[List.all_eq_true] at h;have:=h j (List.mem_range.2 hj);unfold XI at this;rw[List.getElem?_eq_getElem hj] at this;simp only[Bool.not_eq_true',Bool.or_eq_false_iff] at this;have h3:=this.2;unfold intAt at h3;rw[YS,List.any_eq_false] at h3;intro e;refine h3 path[j] ?_ (by simp);rw[← e];exact List.mem_take_iff_getElem.2 ⟨i,by omega,rfl⟩
 have hsub:∀ x∈path,x∈([0,1,2]:List Int):=λ x hx=>by
  have:=inR_ge (h1 x hx);have:x=0\/x=1\/x=2:=by omega
  rcases this with rfl | rfl | rfl <;> simp
 have:=nodup_le hnd hsub;simpa using this
section
variable{f:Finder}{d:Disk}{path:List Int}{n:Str}
theorem cached_ok(h:(((qd f&&Yd d)&&yq path)&&zF n)=true):FindOk f/\DiskOk d/\yq path=true/\zF n=true:=by
 rw[Bool.and_eq_true,Bool.and_eq_true,Bool.and_eq_true] at h;exact⟨Xk.1 h.1.1.1,Jz h.1.1.2,h.1.2,h.2⟩
theorem FindCached_eq(hf:qf f.dirs)(ht:jf d.tree)(hd:qf d.dirs)(hp:path.length<=1048576)(hn:sho n):yJ f d path n=some (jR f d path n):=by
 unfold yJ jR;rw[zaD hf,obS,ValidDisk_eq ht hd,ya,obS,ValidPath_eq hp,ya,obS,qS hn,ya,obS];cases h1:qd f with
 | false=>rfl
 |
  true=>
  cases h2:Yd d with
  | false=>rfl
  |
   true=>
   cases h3:yq path with
   | false=>rfl
   |
    true=>
    cases h4:zF n with
    | false=>rfl
    |
     true=>
     have ho:=Xk.1 h1;have hdo:=Jz h2;have hrl:=QJ f d path n;have hok:=seen_ok ho hdo h3 h4;rw[if_neg (by decide),if_pos (by rfl),Wy hf,obS,findName_k_eq ho hdo ht hp h3 h4,obS,Zx (by simp;omega) (by simp;omega),obS,Wy hok.1.smd,obS];rfl
theorem JA(hf:qf f.dirs)(ht:jf d.tree)(hd:qf d.dirs)(hp:path.length<=1048576)(hn:sho n):x9 f d path n=some (jR f d path n):=by
 unfold x9 jR;rw[zaE hf,obS,validDisk_eq ht hd,ya,obS,show qQ path=some (yq path) from if_pos trivial,ya,obS,show qP n=some (zF n) from if_pos hn.mid,ya,obS];cases h1:qd f with
 | false=>rfl
 |
  true=>
  cases h2:Yd d with
  | false=>rfl
  |
   true=>
   cases h3:yq path with
   | false=>rfl
   |
    true=>
    cases h4:zF n with
    | false=>rfl
    |
     true=>
     have ho:=Xk.1 h1;have hdo:=Jz h2;have hrl:=QJ f d path n;rw[if_neg (by decide),if_pos (by rfl),copyFinder_eq hf,obS,seen_eq ho hdo ht hp h3 h4,obS,Zx (by simp;omega) (by simp;omega),obS];rfl
end
end Go.Proofs.YtdoidiipacdbpaaGreatDoor
