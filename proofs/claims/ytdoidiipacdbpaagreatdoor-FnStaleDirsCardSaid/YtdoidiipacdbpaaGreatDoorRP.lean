import Derived.Test.YtdoidiipacdbpaaGreatDoorRI
namespace Go.Proofs.YtdoidiipacdbpaaGreatDoor
def yW(l:List Dir):Prop:=l.length<=1048576/\∀ d∈l,d.pkg.l.length<=1048576/\d.names.length<=1048576
theorem qR(a b c:Int):xh a b c=some (inR a b c):=rfl
def qh(r:Int)(p:Str)(d:Dir):Bool:=cmpI .eql d.root r&&decide (d.pkg=p)
theorem atDir_self(d:Dir):qh d.root d.pkg d=true:=by simp[qh,cmpI]
theorem zah{l:List Dir}{r:Int}{p:Str}(h:l.length<=1048576):qP l r p=some (jA (qh r p) l):=by
 unfold qP yI;have hl:zS (λ s4=>zW l (λ a0=>Zr a0 r p) s4) 0=some (match l.findIdx? (qh r p) with | some i=>(Sum.inr (i:Int):Unit⊕Int) | none=>Sum.inl ()):=by
  refine Wo l (qh r p) (λ i=>Sum.inr i) _ (λ k x hx hlt=>?_) ?_ (by omega) rfl
  ·
   unfold zW;rw[zK,if_pos (decide_eq_true hlt),yb,hx,obS];show Option.bind (some (qh r p x)) _=_;rw[obS,zV (by omega)];cases qh r p x <;> rfl
  ·
   unfold zW;rw[zK,if_neg (by simp)]
 rw[hl];unfold jA;cases l.findIdx? (qh r p) <;> rfl
theorem Wq{l:List Dir}{r:Int}{p:Str}(h:l.length<=1048576):j5 l r p=some (jA (qh r p) l):=by
 unfold j5;have hl:zS (λ s4=>jQ l r p s4) 0=some (match l.findIdx? (qh r p) with | some i=>(Sum.inr (i:Int):Unit⊕Int) | none=>Sum.inl ()):=by
  refine Wo l (qh r p) (λ i=>Sum.inr i) _ (λ k x hx hlt=>?_) ?_ (by omega) rfl
  ·
   unfold jQ;rw[zK,if_pos (decide_eq_true hlt),yb,hx,obS,zU,obS,zV (by omega)];unfold qh;cases cmpI .eql x.root r with
   | false=>rfl
   | true=>simp only[beq_self_eq_true,if_true,Bool.true_and];cases decide (x.pkg=p) <;> rfl
  ·
   unfold jQ;rw[zK,if_neg (by simp)]
 rw[hl];exact idx_join _ _
theorem stampOf_eq{d:Disk}{r:Int}{p:Str}(h:d.dirs.length<=1048576):∃ n,xC d r p=some n/\xD d r p=some n:=by
 unfold xC xD;rw[zah h,Wq h,obS];have hlt:=idxOf_lt (qh r p) d.dirs;cases hc:cmpI .lss (jA (qh r p) d.dirs) 0 with
 | true=>exact⟨0,rfl,rfl⟩
 |
  false=>
  rw[if_neg (by decide)];have h0:=nneg0 hc;obtain⟨x,hx,_⟩:=xM (l:=d.dirs) (k:=(jA (qh r p) d.dirs).toNat) (by omega);have e:atI d.dirs (jA (qh r p) d.dirs)=some x:=by
   have:=yb d.dirs (jA (qh r p) d.dirs).toNat;rw[Int.toNat_of_nonneg h0] at this;rw[this,hx]
  rw[e];exact⟨x.stamp,rfl,rfl⟩
def Z6(S n:Int)(l:List Dir)(k:Nat):Bool:=match l[k]? with
 | some d=>!((((!inR d.root 0 2||!zy d.pkg)||!inR d.stamp 0 S)||cmpI .gtr (d.names.length:Int) n)||(l.take k).any (qh d.root d.pkg))
 | none=>true
def wY(S n:Int)(l:List Dir):Bool:=(List.range l.length).all (Z6 S n l)&&cmpI .leq (l.length:Int) 20
theorem dirsOk_eq{S n:Int}{l:List Dir}(h:yW l):Zb l S n=some (wY S n l):=by
 have hlen:=h.1;unfold Zb;have hl:zS (λ s4=>ju l S n s4) 0=some (if(List.range l.length).any (λ k=>!Z6 S n l k)=true then .inr false else .inl ()):=by
  refine q7 (List.range l.length) _ _ _ (λ k x hx hlt=>?_) ?_ (by rw[List.length_range];omega) rfl
  ·
   rw[List.length_range] at hlt;rw[List.getElem?_range hlt] at hx;injection hx with hx;subst hx;obtain⟨d,hd,hm⟩:=xM hlt;have hpk:sho d.pkg:=by have:=(h.2 d hm).1;unfold sho;omega
   have htl:(l.take k).length<=1048576:=by simp;omega
   have ht:Z6 S n l k=!((((!inR d.root 0 2||!zy d.pkg)||!inR d.stamp 0 S)||cmpI .gtr (d.names.length:Int) n)||(l.take k).any (qh d.root d.pkg)):=by unfold Z6;rw[hd]
   unfold ju;rw[zK,if_pos (decide_eq_true hlt),yb,hd,obS,qG,obS,ZJ hpk,qG,Xp (by omega),zV (by omega),ht];cases inR d.root 0 2 with
   | false=>rfl
   |
    true=>
    cases zy d.pkg with
    | false=>rfl
    |
     true=>
     cases inR d.stamp 0 S with
     | false=>rfl
     |
      true=>
      cases cmpI .gtr (d.names.length:Int) n with
      | true=>rfl
      |
       false=>
       simp only[Bool.not_true,beq_self_eq_true,Bool.or_self,Bool.false_or,qa,obS];rw[zah htl,obS,Yo];cases(l.take k).any (qh d.root d.pkg) <;> rfl
  ·
   unfold ju;rw[List.length_range,zK,if_neg (by simp)]
 rw[hl,obS,JH];unfold wY;cases(List.range l.length).all (Z6 S n l) <;> rfl
theorem WL{l:List Dir}(h:yW l):jv l=some (wY 200 12 l):=by
 have hlen:=h.1;unfold jv;have hl:zS (λ s4=>wi l s4) 0=some (if(List.range l.length).any (λ k=>!Z6 200 12 l k)=true then .inr false else .inl ()):=by
  refine q7 (List.range l.length) _ _ _ (λ k x hx hlt=>?_) ?_ (by rw[List.length_range];omega) rfl
  ·
   rw[List.length_range] at hlt;rw[List.getElem?_range hlt] at hx;injection hx with hx;subst hx;obtain⟨d,hd,hm⟩:=xM hlt;have hpk:qj d.pkg=some (zy d.pkg):=if_pos (by have:=(h.2 d hm).1;unfold mid;omega);have ht:Z6 200 12 l k=!((((!inR d.root 0 2||!zy d.pkg)||!inR d.stamp 0 200)||cmpI .gtr (d.names.length:Int) 12)||(l.take k).any (qh d.root d.pkg)):=by unfold Z6;rw[hd]
   unfold wi;rw[zK,if_pos (decide_eq_true hlt),yb,hd,obS,qR,obS,zV (by omega),ht];cases inR d.root 0 2 with
   | false=>rfl
   |
    true=>
    rw[show((!true) == false)=true from rfl,qa,obS,qa,hpk,obS];cases zy d.pkg with
    | false=>rfl
    |
     true=>
     rw[show(((!true)||(!true)) == false)=true from rfl,qa,obS,qa,qR,obS];cases inR d.stamp 0 200 with
     | false=>rfl
     |
      true=>
      rw[show((((!true)||(!true))||(!true)) == false)=true from rfl,qa,obS,obS,qa,Wq hlen,obS,idxOf_lss hd (atDir_self d)];cases(l.take k).any (qh d.root d.pkg) with
      | true=>cases cmpI .gtr (d.names.length:Int) 12 <;> rfl
      |
       false=>
       rw[show(((((!true)||(!true))||(!true))||false) == false)=true from rfl,qa,obS];cases cmpI .gtr (d.names.length:Int) 12 <;> rfl
  ·
   unfold wi;rw[List.length_range,zK,if_neg (by simp)]
 rw[hl,obS,JH];unfold wY;cases(List.range l.length).all (Z6 200 12 l) <;> rfl
def xN(x:Finder):Bool:=(wY 200 12 x.dirs&&inR x.fills 0 1000)&&inR x.hits 0 1000
theorem qI{x:Finder}(h:yW x.dirs):ya x=some (xN x):=by
 unfold ya xN;rw[dirsOk_eq h,obS,qG,qG,zU,obS,zU,obS];cases wY 200 12 x.dirs with
 | false=>rfl
 | true=>cases inR x.fills 0 1000 <;> cases inR x.hits 0 1000 <;> rfl
theorem Jw{x:Finder}(h:yW x.dirs):wD x=some (xN x):=by
 unfold wD xN;rw[WL h,obS,qR,qR,zU,obS,zU,obS];cases wY 200 12 x.dirs with
 | false=>rfl
 | true=>cases inR x.fills 0 1000 <;> cases inR x.hits 0 1000 <;> rfl
def wZ(x:Disk):Bool:=(zR x.tree&&inR x.clock 0 200)&&wY x.clock 0 x.dirs
theorem Yp{x:Disk}(ht:xc x.tree)(h:yW x.dirs):yD x=some (wZ x):=by
 unfold yD wZ;rw[WH ht,obS,qG,dirsOk_eq h,zU,obS,zU,obS];cases zR x.tree with
 | false=>rfl
 | true=>cases inR x.clock 0 200 <;> cases wY x.clock 0 x.dirs <;> rfl
def plain(c:Int)(d:Dir):Bool:=cmpI .gtr d.stamp c||cmpI .gtr (d.names.length:Int) 0
theorem J7{c:Int}(hc:inR c 0 200=true)(l:List Dir):wY c 0 l=(!l.any (plain c)&&wY 200 12 l):=by
 unfold inR at hc;rw[Bool.and_eq_true] at hc;have h1:0<=c:=oD hc.1;have h2:c<=200:=oD hc.2;unfold wY;rw[← Bool.and_assoc]
 congr 1
 rw[Bool.eq_iff_iff,List.all_eq_true,Bool.and_eq_true,List.all_eq_true,Bool.not_eq_true',List.any_eq_false];have key:∀ (k:Nat) (d:Dir),l[k]?=some d->(Z6 c 0 l k=true ↔ plain c d=false/\Z6 200 12 l k=true):=by
  intro k d hd;unfold Z6 plain inR;rw[hd];simp only[cmpI,Bool.not_eq_true',Bool.or_eq_false_iff,Bool.not_eq_false',Bool.and_eq_true,decide_eq_true_eq,decide_eq_false_iff_not];constructor
  ·
   rintro ⟨⟨⟨⟨⟨a1,a2⟩,a3⟩,a4,a5⟩,a6⟩,a7⟩
   and_intros <;> first | assumption | omega
  ·
   rintro ⟨⟨b1,b2⟩,⟨⟨⟨⟨a1,a2⟩,a3⟩,a4,a5⟩,a6⟩,a7⟩
   and_intros <;> first | assumption | omega
 constructor
 ·
  intro h;refine⟨λ d hd=>?_,λ k hk=>?_⟩
  ·
   obtain⟨k,hk⟩:=List.getElem?_of_mem hd;rw[((key k d hk).1 (h k (List.mem_range.2 (yg hk)))).1]
   decide
  ·
   obtain⟨d,hd,_⟩:=xM (List.mem_range.1 hk);exact((key k d hd).1 (h k hk)).2
 ·
  rintro ⟨ha,hb⟩ k hk
  obtain⟨d,hd,hm⟩:=xM (List.mem_range.1 hk);exact(key k d hd).2 ⟨by simpa using ha d hm,hb k hk⟩
theorem Yq{x:Disk}(ht:xc x.tree)(h:yW x.dirs):xn x=some (wZ x):=by
 have hlen:=h.1;unfold xn;have hl:zS (λ s4=>wj x s4) 0=some (if x.dirs.any (plain x.clock)=true then(Sum.inr false:Unit⊕Bool) else .inl ()):=by
  refine q7 x.dirs (plain x.clock) _ _ (λ k d hd hlt=>?_) ?_ (by omega) rfl
  ·
   unfold wj plain;rw[zK,if_pos (decide_eq_true hlt),yb,hd,obS,zU,obS,zV (by omega)];cases cmpI .gtr d.stamp x.clock with
   | true=>rfl
   | false=>simp only[beq_self_eq_true,if_true,Bool.false_or];cases cmpI .gtr (d.names.length:Int) 0 <;> rfl
  ·
   unfold wj;rw[zK,if_neg (by simp)]
 have e1:y7 x.tree=some (zR x.tree):=if_pos ht;rw[hl,obS];unfold wZ;cases hc:inR x.clock 0 200 with
 |
  true=>
  rw[J7 hc];cases x.dirs.any (plain x.clock) with
  | true=>cases zR x.tree <;> rfl
  |
   false=>
   rw[if_neg (by decide),Sum.elim_inl,e1,obS,qR,hc,WL h,zU,obS,zU,obS];cases zR x.tree with
   | false=>rfl
   | true=>cases wY 200 12 x.dirs <;> rfl
 |
  false=>
  cases x.dirs.any (plain x.clock) with
  | true=>cases zR x.tree <;> rfl
  |
   false=>
   rw[if_neg (by decide),Sum.elim_inl,e1,obS,qR,hc,WL h,zU,obS,zU,obS];cases zR x.tree <;> rfl
theorem Cut_eq{s:Str}(hs:s.l.length<=4611686018427387904):∃ a b,ZU s ⟨[46]⟩=some ((((zu s dot)[0]?).getD yv),a,b):=by
 have hge:=Lib.indexByte_ge s.l 46;unfold ZU xV;rw[show xF s ⟨[46]⟩=some (Lib.indexByte s.l 46) from rfl,obS,ji];cases hc:cmpI .geq (Lib.indexByte s.l 46) 0 with
 |
  false=>
  rw[if_neg (by decide),obS];have h0:Lib.indexByte s.l 46<0:=by have:=of_decide_eq_false hc;omega
  have h1:cutF dot s.l=[s.l]:=YV 46 s.l h0;rw[h1];exact⟨_,_,rfl⟩
 |
  true=>
  have h0:0<=Lib.indexByte s.l 46:=oD hc;obtain⟨h1,h2⟩:=YW 46 s.l h0;obtain⟨n,hn⟩:∃ n:Nat,Lib.indexByte s.l 46=n:=⟨_,(Int.toNat_of_nonneg h0).symm⟩;rw[hn] at h1 h2 ⊢;have h3:cutF dot s.l=s.l.take n::cutF 46 (s.l.drop (n+1)):=h2;have hl:n+1<=s.l.length:=by omega
  rw[if_pos rfl,zaQ (by omega),obS,show((n:Int)+((⟨[46]⟩:Str).l.length:Int))=((n:Int)+1) from rfl,wn (by omega) (by omega),obS,show((n:Int)+1)=((n+1:Nat):Int) from rfl,zaR hl,obS,obS,h3];exact⟨_,_,rfl⟩
def WZ(s p:Str):Str:=if p=yv then s else⟨s.l.drop (p.l.length+1)⟩
def Yr(s p:Str):Str:=((zu (WZ s p) dot)[0]?).getD yv
theorem zaS(s p:Str):(WZ s p).l.length<=s.l.length:=by
 unfold WZ;split
 ·
  exact Nat.le_refl _
 ·
  rw[List.length_drop];omega
theorem Qq(s p:Str):(zu (WZ s p) dot)[0]?=some (Yr s p)/\(Yr s p).l.length<=s.l.length+1:=by
 obtain⟨x,hx,hm⟩:=xM (QL (WZ s p) dot);have h1:Yr s p=x:=by unfold Yr;rw[hx];rfl
 have h2:=zbQ hm;have h3:=zaS s p;rw[h1];exact⟨hx,by omega⟩
theorem below_eq{s p:Str}(h:p=yv\/p.l.length+1<=s.l.length)(hs:s.l.length<=1048576):
  (if(decide (p≠(⟨[]⟩:Str)))=true then((i64 ((p.l.length:Int)+(1:Int))).bind λ v51=>(cutLO s v51).bind λ v52=>some v52) else(some s))=some (WZ s p):=by
 unfold WZ yv;by_cases he:p=⟨[]⟩
 ·
  rw[if_neg (by simp[he]),if_pos he]
 ·
  have h2:p.l.length+1<=s.l.length:=h.resolve_left he;rw[if_pos (by simp[he]),if_neg he,zV (by omega),obS,zaR h2];rfl
theorem zbY{s p:Str}(hu:under s p=true)(hne:s≠p):p=yv\/p.l.length+1<=s.l.length:=by
 unfold under at hu;rw[Bool.or_eq_true,Bool.or_eq_true,Bool.and_eq_true] at hu;rcases hu with(h | h) | h
 ·
  exact .inl (oD h)
 ·
  exact absurd (oD h) hne
 ·
  have:=oD h.1;exact .inr (by omega)
theorem firstBelow_eq{s p:Str}(h:p=yv\/p.l.length+1<=s.l.length)(hs:s.l.length<=1048576):j6 s p=some (Yr s p):=by
 unfold j6;have hl:=zaS s p;rw[below_eq h hs,obS,show qx (WZ s p) (UInt8.ofNat 46)=some (zu (WZ s p) dot) from if_pos (by unfold mid;omega),obS];rw[show atI (zu (WZ s p) dot) (0:Int)=some (Yr s p) from(yb _ 0).trans (Qq s p).1];rfl
def star:Str:=⟨[42]⟩
def jI(r:Int)(p:Str)(f:File):List Str:=
 if cmpI .neq f.root r=true then[] else if f.pkg=p then[if f.init=true then star else f.name] else if(zF f.pkg&&under f.pkg p)=true then[⟨(Yr f.pkg p).l++[47]⟩] else[]
theorem items_len(r:Int)(p:Str)(f:File):(jI r p f).length<=1:=by
 unfold jI;split
 ·
  simp
 ·
  split
  ·
   simp
  ·
   split <;> simp
theorem zai(r:Int)(p:Str)(l:List File):(l.flatMap (jI r p)).length<=l.length:=by
 induction l with
 | nil=>exact Nat.le_refl _
 | cons f l ih=>have:=items_len r p f;rw[List.flatMap_cons,List.length_append,List.length_cons];omega
theorem rows_next{r:Int}{p:Str}{l:List File}{k:Nat}{f:File}(hf:l[k]?=some f):(l.take (k+1)).flatMap (jI r p)=(l.take k).flatMap (jI r p)++jI r p f:=by
 rw[List.take_add_one,hf,List.flatMap_append];simp
theorem Qr{t:Tree}(ht:xc t)(hv:zR t=true){r:Int}{p:Str}(hp:zy p=true):jF t r p=some (qc (t.files.flatMap (jI r p))):=by
 unfold jF;have hlen:=ZY hv;have hpl:=yn hp;have hrl:=zai r p t.files;have hl:zS (λ s5=>wU t r p s5) ([],(0:Int))=some (t.files.flatMap (jI r p)):=by
  refine Yb (b:=t.files.flatMap (jI r p)) t.files.length (λ k=>((t.files.take k).flatMap (jI r p),(k:Int))) (λ k hk=>?_) (by unfold wU;simp only;rw[zK,if_neg (by simp),List.take_length]) (by omega) rfl;obtain⟨f,hf,hm⟩:=xM hk;have h1:=zai r p (t.files.take k);rw[List.length_take] at h1;have hsm:=ht.2 f hm;rw[rows_next hf];unfold wU;simp only;rw[zK,if_pos (decide_eq_true hk),yb,hf,obS,zV (k:=k) (by omega)];generalize (t.files.take k).flatMap (jI r p)=out at h1 ⊢;have happ:∀ x:Str,appO 16 out [x]=some (out++[x]):=λ x=>wq (by simp;omega) (by simp;omega)
  have nf:¬ (false=true):=by decide
  have pt:(true=true):=rfl;unfold jI;cases cmpI .neq f.root r with
  | true=>rw[if_pos pt,if_pos pt,List.append_nil];rfl
  |
   false=>
   rw[if_neg nf,if_neg nf];by_cases hpk:f.pkg=p
   ·
    rw[if_pos (decide_eq_true hpk),if_pos hpk,happ,happ];cases f.init <;> rfl
   ·
    rw[if_neg (by simp[hpk]),if_neg hpk,zbS hsm.shop (by omega),obS,hp,Bool.and_true];cases hu:zF f.pkg&&under f.pkg p with
    | false=>rw[if_neg nf,if_neg nf,List.append_nil];rfl
    |
     true=>
     rw[Bool.and_eq_true] at hu;have hnl:=y8 hu.1;have hbl:=zaS f.pkg p;obtain⟨a,b,hc⟩:=Cut_eq (s:=WZ f.pkg p) (by omega);have hfl:=(Qq f.pkg p).2;rw[if_pos pt,if_pos pt,below_eq (zbY hu.2 hpk) (by omega),obS,hc,obS];show Option.bind (Option.bind (catO (Yr f.pkg p) ⟨[47]⟩) _) _=_;rw[Zh (by show(Yr f.pkg p).l.length+1<=_;omega),obS,happ];rfl
 rw[hl,obS,sorted_eq (by omega),obS]
theorem XR{s:Str}(h:zy s=true):zF s=decide (s≠(⟨[]⟩:Str)):=by
 unfold zy at h;by_cases he:s=yv
 ·
  rw[he,Z2];rfl
 ·
  have:zF s=true:=by simpa[he] using h
  rw[this];exact(decide_eq_true he).symm
theorem zbZ{f:File}(h:yC f=true)(hi:f.init=false):f.name≠⟨[]⟩:=by
 unfold yC at h;split at h
 ·
  cases h
 ·
  rw[hi,if_neg (by decide),Bool.and_eq_true] at h;have:=(xl h.1).1;intro e;rw[e] at this;simp at this
theorem zb0{t:Tree}(ht:xc t)(hv:zR t=true){r:Int}{p:Str}(hp:zy p=true):qA t r p=some (qc (t.files.flatMap (jI r p))):=by
 unfold qA;have hlen:=ZY hv;have hpl:=yn hp;have hl:zS (λ s5=>wV t r p s5) ([],(0:Int))=some ((t.files.flatMap (jI r p)).foldl wo []):=by
  refine Yb (b:=(t.files.flatMap (jI r p)).foldl wo []) t.files.length (λ k=>(((t.files.take k).flatMap (jI r p)).foldl wo [],(k:Int))) (λ k hk=>?_) (by unfold wV;simp only;rw[zK,if_neg (by simp),List.take_length]) (by omega) rfl;obtain⟨f,hf,hm⟩:=xM hk;have h1:=zai r p (t.files.take k);have h2:=insertAll_len ((t.files.take k).flatMap (jI r p)) [];rw[List.length_take] at h1;rw[List.length_nil] at h2;have hsm:=ht.2 f hm;have hvf:=qH hv hm;have hvp:=qf hvf;rw[rows_next hf,List.foldl_append];unfold wV;simp only;rw[zK,if_pos (decide_eq_true hk),yb,hf,obS,zV (k:=k) (by omega)];generalize ((t.files.take k).flatMap (jI r p)).foldl wo []=out at h2 ⊢;have hins:∀ x:Str,Zg out x=some (wo out x):=λ x=>if_pos (by omega)
  have nf:¬ (false=true):=by decide
  have pt:(true=true):=rfl;unfold jI;cases cmpI .neq f.root r with
  | true=>rw[if_pos pt,if_pos pt];rfl
  |
   false=>
   rw[if_neg nf,if_neg nf];by_cases hpk:f.pkg=p
   ·
    rw[decide_eq_true hpk,if_pos hpk];cases hi:f.init with
    | true=>rw[show(true&&true)=true from rfl,if_pos pt,if_pos pt,obS,if_pos (show decide ((⟨[42]⟩:Str)≠⟨[]⟩)=true from rfl),hins];rfl
    |
     false=>
     rw[show(true&&false)=false from rfl,if_neg nf,if_neg nf,if_pos pt,obS,if_pos (decide_eq_true (zbZ hvf hi)),hins];rfl
   ·
    rw[decide_eq_false hpk,if_neg hpk,show(false&&f.init)=false from rfl,if_neg nf,if_neg nf,XR hvp,show Xi f.pkg p=some (under f.pkg p) from if_pos (by omega)];cases he:decide (f.pkg≠(⟨[]⟩:Str)) with
    | false=>rfl
    |
     true=>
     rw[show((true:Bool) == true)=true from rfl,qa,obS,Bool.true_and];cases hu:under f.pkg p with
     | false=>rfl
     |
      true=>
      have hnl:=yn hvp;have hfl:=(Qq f.pkg p).2;rw[if_pos pt,if_pos pt,firstBelow_eq (zbY hu hpk) (by omega),obS,Zh (by show(Yr f.pkg p).l.length+1<=_;omega),obS,obS,if_pos (by simp),hins];rfl
 rw[hl];show some _=_
 congr 1
 refine asc_ext (insertAll_asc List.Pairwise.nil) (Xm _).1 λ x=>?_
 rw[insertAll_iff,(Xm _).2];simp
theorem sameTexts_eq{x y:List Str}(h:x.length<=288230376151711744):qB x y=some (decide (x=y)):=by
 unfold qB;refine zag (λ k hk hk2=>?_) ?_ (by omega)
 ·
  unfold je;simp only[lss_at hk,if_true,Jv hk,Jv hk2,obS,zV (show k<4611686018427387904 by omega)];by_cases e:x[k]=y[k] <;> simp[e]
 ·
  unfold je;rw[lss_end];rfl
def stamp(d:Disk)(x:Dir):Int:=(xD d x.root x.pkg).getD 0
theorem stamp_eq{d:Disk}(h:d.dirs.length<=1048576)(x:Dir):xC d x.root x.pkg=some (stamp d x)/\xD d x.root x.pkg=some (stamp d x):=by
 obtain⟨n,h1,h2⟩:=stampOf_eq (d:=d) (r:=x.root) (p:=x.pkg) h;have:stamp d x=n:=by unfold stamp;rw[h2];rfl
 rw[this];exact⟨h1,h2⟩
def ZL(f:Finder)(d:Disk)(k:Nat):Bool:=match f.dirs[k]? with
 | some x=>cmpI .eql x.stamp (stamp d x)&&!decide (x.names=qc (d.tree.files.flatMap (jI x.root x.pkg)))
 | none=>false
def jk(f:Finder)(d:Disk)(k:Nat):List Int:=((List.range k).filter (ZL f d)).map (λ i:Nat=>(i:Int))
theorem WM(f:Finder)(d:Disk)(k:Nat):(jk f d k).length<=k:=by
 have:=List.length_filter_le (ZL f d) (List.range k);unfold jk;rw[List.length_map];rw[List.length_range] at this;exact this
theorem zbb(f:Finder)(d:Disk)(k:Nat):jk f d (k+1)=jk f d k++(if ZL f d k=true then[(k:Int)] else[]):=by
 unfold jk;rw[List.range_succ,List.filter_append,List.map_append];cases h:ZL f d k <;> simp[h]
def Zc(f:Finder)(d:Disk):List Int:=if(xN f&&wZ d)=true then jk f d f.dirs.length else[]
theorem staleDirs_len(f:Finder)(d:Disk):(Zc f d).length<=f.dirs.length:=by
 unfold Zc;split
 ·
  exact WM ..
 ·
  exact Nat.zero_le _
theorem zbc{S n:Int}{l:List Dir}(h:wY S n l=true){x:Dir}(hx:x∈l):zy x.pkg=true:=by
 unfold wY at h;rw[Bool.and_eq_true,List.all_eq_true] at h;obtain⟨k,hk⟩:=List.getElem?_of_mem hx;have:=h.1 k (List.mem_range.2 (yg hk));unfold Z6 at this;rw[hk] at this;simp only at this;cases hv:zy x.pkg with
 | true=>rfl
 | false=>rw[hv] at this;simp at this
theorem WN{f:Finder}{d:Disk}(hf:yW f.dirs)(ht:xc d.tree)(hd:yW d.dirs):wC f d=some (Zc f d):=by
 unfold wC Zc;rw[qI hf,obS,Yp ht hd,zU,obS];cases h1:xN f with
 | false=>rfl
 |
  true=>
  cases h2:wZ d with
  | false=>rfl
  |
   true=>
   have hlen:=hf.1;have hv:zR d.tree=true:=by unfold wZ at h2;rw[Bool.and_eq_true,Bool.and_eq_true] at h2;exact h2.1.1
   have hfit:wY 200 12 f.dirs=true:=by unfold xN at h1;rw[Bool.and_eq_true,Bool.and_eq_true] at h1;exact h1.1.1
   have hl:zS (λ s=>wh f d s) ([],(0:Int))=some (jk f d f.dirs.length):=by
    refine Yb (b:=jk f d f.dirs.length) f.dirs.length (λ k=>(jk f d k,(k:Int))) (λ k hk=>?_) (by unfold wh;simp only;rw[zK,if_neg (by simp)]) (by omega) rfl;obtain⟨x,hx,hm⟩:=xM hk;have hsl:=WM f d k;have hnl:=(hf.2 x hm).2;have hsa:ZL f d k=(cmpI .eql x.stamp (stamp d x)&&!decide (x.names=qc (d.tree.files.flatMap (jI x.root x.pkg)))):=by unfold ZL;rw[hx]
    rw[zbb,hsa];unfold wh;simp only;rw[zK,if_pos (decide_eq_true hk),yb,hx,obS,zV (k:=k) (by omega),(stamp_eq hd.1 x).1,obS];generalize jk f d k=out at hsl ⊢;cases cmpI .eql x.stamp (stamp d x) with
    | false=>show some _=some _;rw[show(if(false&&!decide (x.names=qc (d.tree.files.flatMap (jI x.root x.pkg))))=true then[(k:Int)] else[])=[] from rfl,List.append_nil]
    |
     true=>
     rw[show((true:Bool) == true)=true from rfl,qa,Qr ht hv (zbc hfit hm),obS,qa,EqualS_eq (by omega),obS];cases decide (x.names=qc (d.tree.files.flatMap (jI x.root x.pkg))) with
     | true=>show some _=some _;rw[show(if(true&&!true)=true then[(k:Int)] else[])=[] from rfl,List.append_nil]
     |
      false=>
      rw[wq (by simp;omega) (by simp;omega)];rfl
   rw[show(!true||!if((!true) == false)=true then true else default)=false from rfl,if_neg (by decide),hl];rfl
theorem zaj{f:Finder}{d:Disk}(hf:yW f.dirs)(ht:xc d.tree)(hd:yW d.dirs):jw f d=some (Zc f d):=by
 unfold jw Zc;rw[Jw hf,obS,Yq ht hd,zU,obS];cases h1:xN f with
 | false=>rfl
 |
  true=>
  cases h2:wZ d with
  | false=>rfl
  |
   true=>
   have hlen:=hf.1;have hv:zR d.tree=true:=by unfold wZ at h2;rw[Bool.and_eq_true,Bool.and_eq_true] at h2;exact h2.1.1
   have hfit:wY 200 12 f.dirs=true:=by unfold xN at h1;rw[Bool.and_eq_true,Bool.and_eq_true] at h1;exact h1.1.1
   have hl:zS (λ s=>wk f d s) ([],(0:Int))=some (jk f d f.dirs.length):=by
    refine Yb (b:=jk f d f.dirs.length) f.dirs.length (λ k=>(jk f d k,(k:Int))) (λ k hk=>?_) (by unfold wk;simp only;rw[zK,if_neg (by simp)]) (by omega) rfl;obtain⟨x,hx,hm⟩:=xM hk;have hsl:=WM f d k;have hnl:=(hf.2 x hm).2;have hsa:ZL f d k=(cmpI .eql x.stamp (stamp d x)&&!decide (x.names=qc (d.tree.files.flatMap (jI x.root x.pkg)))):=by unfold ZL;rw[hx]
    rw[zbb,hsa];unfold wk;simp only;rw[zK,if_pos (decide_eq_true hk),yb,hx,obS,zV (k:=k) (by omega),(stamp_eq hd.1 x).2,obS];generalize jk f d k=out at hsl ⊢;cases cmpI .eql x.stamp (stamp d x) with
    | false=>show some _=some _;rw[show(if(false&&!decide (x.names=qc (d.tree.files.flatMap (jI x.root x.pkg))))=true then[(k:Int)] else[])=[] from rfl,List.append_nil]
    |
     true=>
     rw[show((true:Bool) == true)=true from rfl,qa,zb0 ht hv (zbc hfit hm),obS,qa,sameTexts_eq (by omega),obS];cases decide (x.names=qc (d.tree.files.flatMap (jI x.root x.pkg))) with
     | true=>show some _=some _;rw[show(if(true&&!true)=true then[(k:Int)] else[])=[] from rfl,List.append_nil]
     |
      false=>
      rw[wq (by simp;omega) (by simp;omega)];rfl
   rw[show(!true||!if((!true) == false)=true then true else default)=false from rfl,if_neg (by decide),hl];rfl
def dirK(l:List Dir)(r:Int)(p:Str):Option Nat:=l.findIdx? (qh r p)
theorem Wr{r:Int}{p:Str}{d:Dir}:qh r p d=true ↔ d.root=r/\d.pkg=p:=by simp[qh,cmpI]
theorem qJ{l:List Dir}{r:Int}{p:Str}{k:Nat}(h:dirK l r p=some k):k<l.length/\l[k]?=some (l.getD k default)/\(l.getD k default).root=r/\(l.getD k default).pkg=p:=by
 obtain⟨hk,h1,_⟩:=List.findIdx?_eq_some_iff_getElem.1 h;have e:l.getD k default=l[k]:=by simp[List.getD_eq_getElem?_getD,List.getElem?_eq_getElem hk]
 rw[e];exact⟨hk,List.getElem?_eq_getElem hk,Wr.1 h1⟩
theorem dirK_none{l:List Dir}{r:Int}{p:Str}(h:dirK l r p=none):∀ x∈l,¬ (x.root=r/\x.pkg=p):=λ x hx hk=>by
 have:=List.findIdx?_eq_none_iff.1 h x hx;rw[Wr.2 hk] at this;cases this
theorem dirK_keys{l m:List Dir}(h:l.map (λ d=>(d.root,d.pkg))=m.map (λ d=>(d.root,d.pkg)))(r:Int)(p:Str):dirK l r p=dirK m r p:=by
 have e:∀ l:List Dir,dirK l r p=(l.map (λ d=>(d.root,d.pkg))).findIdx? (λ y=>decide (y.1=r)&&decide (y.2=p)):=λ l=>by
  rw[List.findIdx?_map];rfl
 rw[e,e,h]
theorem dirK_set{l:List Dir}{k:Nat}{y:Dir}(hk:k<l.length)(h1:(l.getD k default).root=y.root)(h2:(l.getD k default).pkg=y.pkg)(r:Int)(p:Str):dirK (l.set k y) r p=dirK l r p:=by
 refine dirK_keys ?_ r p;rw[List.map_set];refine List.ext_getElem? λ i=>?_
 by_cases e:k=i
 ·
  subst e;have e2:l.getD k default=l[k]:=by simp[List.getD_eq_getElem?_getD,List.getElem?_eq_getElem hk]
  rw[e2] at h1 h2;rw[List.getElem?_set_self (by simpa using hk),List.getElem?_map,List.getElem?_eq_getElem hk,← h1,← h2];rfl
 ·
  rw[List.getElem?_set_ne e]
theorem dirK_app{l:List Dir}{y:Dir}{r:Int}{p:Str}:dirK (l++[y]) r p=match dirK l r p with | some k=>some k | none=>if qh r p y=true then some l.length else none:=by
 unfold dirK;rw[List.findIdx?_append];cases List.findIdx? (qh r p) l with
 | some k=>rfl
 | none=>simp[List.findIdx?_cons]
def ZO(d:Disk)(r:Int)(p:Str):Int:=match dirK d.dirs r p with | some k=>(d.dirs.getD k default).stamp | none=>0
def Xd(t:Tree)(r:Int)(p:Str):List Str:=qc (t.files.flatMap (jI r p))
def upI(n:Int):Int:=if n+1<=1000 then n+1 else 1000
def Ys(d:Disk)(r:Int)(p:Str):Dir:=⟨r,p,ZO d r p,Xd d.tree r p⟩
def xe(f:Finder)(d:Disk)(r:Int)(p:Str):Finder×List Str:=
 match dirK f.dirs r p with
 |
  some k=>if(f.dirs.getD k default).stamp=ZO d r p then(⟨f.dirs,f.fills,upI f.hits⟩,(f.dirs.getD k default).names)
  else(⟨f.dirs.set k (Ys d r p),upI f.fills,f.hits⟩,Xd d.tree r p)
 | none=>(⟨if f.dirs.length<20 then f.dirs++[Ys d r p] else f.dirs,upI f.fills,f.hits⟩,Xd d.tree r p)
def mark(s:Str):Str:=⟨s.l++[47]⟩
def zT(d:Disk)(p s:Str):Finder->List Int->List Int->Finder×Spec
 | f,acc,[]=>(f,if cmpI .gtr acc.length 0=true then⟨3,-1,acc⟩ else Yf)
 |
  f,acc,r::rs=>
  if(xu (xe f d r p).2 (mark s)&&cmpI .geq (yh d.tree.files ⟨r,child p s,⟨[]⟩,true,0,[]⟩) 0)=true then((xe f d r p).1,⟨2,yh d.tree.files ⟨r,child p s,⟨[]⟩,true,0,[]⟩,[r]⟩)
  else if(xu (xe f d r p).2 s&&cmpI .geq (yh d.tree.files ⟨r,p,s,false,0,[]⟩) 0)=true then((xe f d r p).1,⟨1,yh d.tree.files ⟨r,p,s,false,0,[]⟩,[]⟩)
  else zT d p s (xe f d r p).1 (if(xu (xe f d r p).2 (mark s)&&qe d.tree.files r (child p s))=true then acc++[r] else acc) rs
def yt(d:Disk)(list:List Str):Nat->Finder->Spec->List Str->Finder×Spec
 | _,f,out,[]=>(f,out)
 | k,f,out,x::xs=>if(cmpI .neq out.kind 2&&cmpI .neq out.kind 3)=true then(f,Yf) else yt d list (k+1) (zT d (join (list.take k)) x f [] out.roots).1 (zT d (join (list.take k)) x f [] out.roots).2 xs
def qd(f:Finder)(d:Disk)(path:List Int)(s:Str):Finder×Spec:=yt d (zu s dot) 0 f ⟨3,-1,path⟩ (zu s dot)
def ql(f:Finder)(d:Disk)(path:List Int)(s:Str):Finder×Spec:=
 if(((xN f&&wZ d)&&ym path)&&zF s)=true then qd f d path s else(⟨[],0,0⟩,Yf)
def XQ(f:Finder)(d:Disk)(r:Int)(p:Str)(ns:List Str):Prop:=∃ k,dirK f.dirs r p=some k/\(f.dirs.getD k default).stamp=ZO d r p/\(f.dirs.getD k default).names=ns
theorem fill_hit{f:Finder}{d:Disk}{r:Int}{p:Str}{ns:List Str}(h:XQ f d r p ns):xe f d r p=(⟨f.dirs,f.fills,upI f.hits⟩,ns):=by
 obtain⟨k,h1,h2,h3⟩:=h;unfold xe;rw[h1];simp only;rw[if_pos h2,h3]
theorem fill_len(f:Finder)(d:Disk)(r:Int)(p:Str):f.dirs.length<=(xe f d r p).1.dirs.length:=by
 unfold xe;split
 ·
  split
  ·
   exact Nat.le_refl _
  ·
   simp
 ·
  split
  ·
   simp
  ·
   exact Nat.le_refl _
theorem fill_knows{f:Finder}{d:Disk}{r:Int}{p:Str}(h:(xe f d r p).1.dirs.length<20):XQ (xe f d r p).1 d r p (xe f d r p).2:=by
 unfold xe at h ⊢;cases hk:dirK f.dirs r p with
 |
  some k=>
  rw[hk] at h;obtain⟨h1,h2,h3,h4⟩:=qJ hk;simp only at h ⊢;split
  ·
   rename_i hs;exact⟨k,hk,hs,rfl⟩
  ·
   refine⟨k,?_,?_,?_⟩
   ·
    show dirK (f.dirs.set k _) r p=_;rw[dirK_set h1 h3 h4,hk]
   ·
    simp[List.getD_eq_getElem?_getD,h1,Ys]
   ·
    simp[List.getD_eq_getElem?_getD,h1,Ys]
 |
  none=>
  rw[hk] at h;simp only at h ⊢;by_cases hl:f.dirs.length<20
  ·
   rw[if_pos hl];refine⟨f.dirs.length,?_,?_,?_⟩
   ·
    show dirK (f.dirs++[_]) r p=_;rw[dirK_app,hk];simp only;exact if_pos (Wr.2 ⟨rfl,rfl⟩)
   ·
    simp[List.getD_eq_getElem?_getD,Ys]
   ·
    simp[List.getD_eq_getElem?_getD,Ys]
  ·
   rw[if_neg hl] at h;exact absurd h hl
theorem Qs{f:Finder}{d:Disk}{r r':Int}{p p':Str}{ns:List Str}(h:XQ f d r p ns):XQ (xe f d r' p').1 d r p ns:=by
 obtain⟨k,h1,h2,h3⟩:=h;obtain⟨k1,k2,k3,k4⟩:=qJ h1;unfold xe;cases hk:dirK f.dirs r' p' with
 |
  some k'=>
  obtain⟨g1,g2,g3,g4⟩:=qJ hk;simp only;split
  ·
   exact⟨k,h1,h2,h3⟩
  ·
   rename_i hs;have hne:k'≠k:=λ e=>by
    subst e;rw[k3] at g3;rw[k4] at g4;subst g3 g4;exact hs h2
   have e:(f.dirs.set k' (Ys d r' p')).getD k default=f.dirs.getD k default:=by
    rw[List.getD_eq_getElem?_getD,List.getD_eq_getElem?_getD,List.getElem?_set_ne hne]
   refine⟨k,?_,?_,?_⟩
   ·
    show dirK (f.dirs.set k' _) r p=_;rw[dirK_set g1 g3 g4,h1]
   ·
    show((f.dirs.set k' _).getD k default).stamp=_;rw[e,h2]
   ·
    show((f.dirs.set k' _).getD k default).names=_;rw[e,h3]
 |
  none=>
  simp only;by_cases hl:f.dirs.length<20
  ·
   rw[if_pos hl];have e:(f.dirs++[Ys d r' p']).getD k default=f.dirs.getD k default:=by
    rw[List.getD_eq_getElem?_getD,List.getD_eq_getElem?_getD,List.getElem?_append_left k1]
   refine⟨k,?_,?_,?_⟩
   ·
    show dirK (f.dirs++[_]) r p=_;rw[dirK_app,h1]
   ·
    show((f.dirs++[_]).getD k default).stamp=_;rw[e,h2]
   ·
    show((f.dirs++[_]).getD k default).names=_;rw[e,h3]
  ·
   rw[if_neg hl];exact⟨k,h1,h2,h3⟩
theorem runK_len{d:Disk}{p s:Str}:∀ (rs acc:List Int) (f:Finder),f.dirs.length<=(zT d p s f acc rs).1.dirs.length
 | [],acc,f=>Nat.le_refl _
 |
  r::rs,acc,f=>by
  unfold zT;split
  ·
   exact fill_len ..
  ·
   split
   ·
    exact fill_len ..
   ·
    exact Nat.le_trans (fill_len ..) (runK_len rs _ _)
theorem Qt{d:Disk}{p s:Str}{r':Int}{p':Str}{ns:List Str}:∀ (rs acc:List Int) (f:Finder),XQ f d r' p' ns->XQ (zT d p s f acc rs).1 d r' p' ns
 | [],acc,f,h=>h
 |
  r::rs,acc,f,h=>by
  unfold zT;split
  ·
   exact Qs h
  ·
   split
   ·
    exact Qs h
   ·
    exact Qt rs _ _ (Qs h)
def knowsAll(g h:Finder)(d:Disk):Prop:=∀ r p ns,XQ g d r p ns->XQ h d r p ns
theorem zb1{d:Disk}{p s:Str}:∀ (rs acc:List Int) (f h:Finder),(zT d p s f acc rs).1.dirs.length<20->knowsAll (zT d p s f acc rs).1 h d->
  (zT d p s h acc rs).2=(zT d p s f acc rs).2/\(zT d p s h acc rs).1.dirs=h.dirs/\(zT d p s h acc rs).1.fills=h.fills
 | [],acc,f,h,_,_=>⟨rfl,rfl,rfl⟩
 |
  r::rs,acc,f,h,hl,hk=>by
  have key:∀ g:Finder,(xe f d r p).1.dirs.length<=g.dirs.length->g.dirs.length<20->(∀ ns,XQ (xe f d r p).1 d r p ns->XQ g d r p ns)->knowsAll g h d->xe h d r p=(⟨h.dirs,h.fills,upI h.hits⟩,(xe f d r p).2):=λ g h1 h2 h3 h4=>
   fill_hit (h4 _ _ _ (h3 _ (fill_knows (by omega))))
  unfold zT at hl hk ⊢;by_cases c1:(xu (xe f d r p).2 (mark s)&&cmpI .geq (yh d.tree.files ⟨r,child p s,⟨[]⟩,true,0,[]⟩) 0)=true
  ·
   rw[if_pos c1] at hl hk;rw[if_pos c1,key _ (Nat.le_refl _) hl (λ _ h=>h) hk];simp only;rw[if_pos c1];exact⟨rfl,rfl,rfl⟩
  ·
   rw[if_neg c1] at hl hk;by_cases c2:(xu (xe f d r p).2 s&&cmpI .geq (yh d.tree.files ⟨r,p,s,false,0,[]⟩) 0)=true
   ·
    rw[if_pos c2] at hl hk;rw[if_neg c1,if_pos c2,key _ (Nat.le_refl _) hl (λ _ h=>h) hk];simp only;rw[if_neg c1,if_pos c2];exact⟨rfl,rfl,rfl⟩
   ·
    rw[if_neg c2] at hl hk;rw[if_neg c1,if_neg c2,key _ (runK_len ..) hl (λ _ h=>Qt _ _ _ h) hk];simp only;rw[if_neg c1,if_neg c2];obtain⟨a1,a2,a3⟩:=zb1 rs _ (xe f d r p).1 ⟨h.dirs,h.fills,upI h.hits⟩ hl hk;exact⟨a1,a2,a3⟩
theorem restK_len{d:Disk}{list:List Str}:∀ (xs:List Str) (k:Nat) (f:Finder) (out:Spec),f.dirs.length<=(yt d list k f out xs).1.dirs.length
 | [],_,_,_=>Nat.le_refl _
 |
  x::xs,k,f,out=>by
  unfold yt;split
  ·
   exact Nat.le_refl _
  ·
   exact Nat.le_trans (runK_len ..) (restK_len xs _ _ _)
theorem zbd{d:Disk}{list:List Str}{r':Int}{p':Str}{ns:List Str}:∀ (xs:List Str) (k:Nat) (f:Finder) (out:Spec),XQ f d r' p' ns->XQ (yt d list k f out xs).1 d r' p' ns
 | [],_,_,_,h=>h
 |
  x::xs,k,f,out,h=>by
  unfold yt;split
  ·
   exact h
  ·
   exact zbd xs _ _ _ (Qt _ _ _ h)
theorem zbe{d:Disk}{list:List Str}:∀ (xs:List Str) (k:Nat) (f h:Finder) (out:Spec),(yt d list k f out xs).1.dirs.length<20->knowsAll (yt d list k f out xs).1 h d->
  (yt d list k h out xs).2=(yt d list k f out xs).2/\(yt d list k h out xs).1.dirs=h.dirs/\(yt d list k h out xs).1.fills=h.fills
 | [],_,_,_,_,_,_=>⟨rfl,rfl,rfl⟩
 |
  x::xs,k,f,h,out,hl,hk=>by
  unfold yt at hl hk ⊢;split
  ·
   exact⟨rfl,rfl,rfl⟩
  ·
   rename_i hc;rw[if_neg hc] at hl hk;obtain⟨a1,a2,a3⟩:=zb1 out.roots [] f h (Nat.lt_of_le_of_lt (restK_len ..) hl) λ r p ns h1=>hk _ _ _ (zbd _ _ _ _ h1)
   rw[a1];obtain⟨b1,b2,b3⟩:=zbe xs (k+1) (zT d (join (list.take k)) x f [] out.roots).1 (zT d (join (list.take k)) x h [] out.roots).1 (zT d (join (list.take k)) x f [] out.roots).2 hl λ r p ns h1=>by
    obtain⟨j,j1,j2,j3⟩:=hk _ _ _ h1;unfold XQ;rw[a2];exact⟨j,j1,j2,j3⟩
   exact⟨b1,b2.trans a2,b3.trans a3⟩
theorem seen_again{f:Finder}{d:Disk}{path:List Int}{s:Str}(h:(qd f d path s).1.dirs.length<20):(qd (qd f d path s).1 d path s).2=(qd f d path s).2/\(qd (qd f d path s).1 d path s).1.dirs=(qd f d path s).1.dirs/\(qd (qd f d path s).1 d path s).1.fills=(qd f d path s).1.fills:=
 zbe _ _ _ _ _ h λ _ _ _ h=>h
def Jx(f:Finder)(d:Disk):Prop:=∀ x∈f.dirs,x.stamp=ZO d x.root x.pkg->x.names=Xd d.tree x.root x.pkg
theorem fill_fresh{f:Finder}{d:Disk}{r:Int}{p:Str}(h:Jx f d):(xe f d r p).2=Xd d.tree r p/\Jx (xe f d r p).1 d:=by
 unfold xe;cases hk:dirK f.dirs r p with
 |
  some k=>
  obtain⟨h1,h2,h3,h4⟩:=qJ hk;simp only;split
  ·
   rename_i hs;have:=h _ (List.mem_of_getElem? h2);rw[h3,h4] at this;exact⟨this hs,h⟩
  ·
   refine⟨rfl,λ x hx=>?_⟩;rcases List.mem_or_eq_of_mem_set hx with hx | rfl
   ·
    exact h x hx
   ·
    exact λ _=>rfl
 |
  none=>
  refine⟨rfl,λ x hx=>?_⟩;simp only at hx;split at hx
  ·
   rcases List.mem_append.1 hx with hx | hx
   ·
    exact h x hx
   ·
    rw[List.mem_singleton.1 hx];exact λ _=>rfl
  ·
   exact h x hx
theorem first_iff{q s:Str}(hs:(46:UInt8) ∉ s.l):((zu q dot)[0]?).getD yv=s ↔ q=s\/∃ rest,q.l=s.l++46::rest:=by
 rw[ji];have hj:=WJ q.l;constructor
 ·
  intro h;cases hc:cutF 46 q.l with
  | nil=>exact absurd hc (ZI 46 q.l)
  |
   cons a t=>
   rw[show dot=(46:UInt8) from rfl,hc] at h;have ha:(⟨a⟩:Str)=s:=h;subst ha;rw[hc] at hj;cases t with
   | nil=>exact .inl (by rw[Wp] at hj;rw[hj])
   | cons b t=>exact .inr ⟨_,hj.symm⟩
 ·
  rintro (rfl | ⟨rest,h⟩)
  ·
   rw[show dot=(46:UInt8) from rfl,zad 46 q.l hs];rfl
  ·
   rw[show dot=(46:UInt8) from rfl,h,cutF_pre 46 s.l rest hs];rfl
theorem under_iff{q c:Str}(hc:c≠yv):under q c=true ↔ q=c\/∃ rest,q.l=c.l++46::rest:=by
 unfold under;simp only[Bool.or_eq_true,Bool.and_eq_true,decide_eq_true_eq];constructor
 ·
  rintro ((h | h) | ⟨_,h⟩)
  ·
   exact absurd h hc
  ·
   exact .inl h
  ·
   refine .inr ⟨q.l.drop (c.l.length+1),?_⟩;have h2:=congrArg Str.l h;simp only at h2;have:=List.take_append_drop (c.l.length+1) q.l;rw[h2] at this;rw[← this];simp
 ·
  rintro (h | ⟨rest,h⟩)
  ·
   exact .inl (.inr h)
  ·
   refine .inr ⟨by simp[cmpI,h];omega,?_⟩
   congr 1
   rw[h,show c.l++46::rest=(c.l++[46])++rest by simp,List.take_left' (by simp)]
theorem zbf{q p s:Str}(hq:q≠yv)(hs:(46:UInt8) ∉ s.l)(h0:s≠yv):under q (child p s)=true ↔ q≠p/\under q p=true/\Yr q p=s:=by
 have hc:child p s≠yv:=by
  unfold child;split
  ·
   exact h0
  ·
   intro e;have:=congrArg (λ x:Str=>x.l.length) e;simp[yv] at this
 rw[under_iff hc];unfold Yr WZ;by_cases hp:p=yv
 ·
  subst hp;rw[if_pos rfl,first_iff hs];unfold child;rw[if_pos rfl];constructor
  ·
   intro h;exact⟨hq,rfl,h⟩
  ·
   intro h;exact h.2.2
 ·
  rw[if_neg hp,under_iff hp,first_iff hs];unfold child;rw[if_neg hp];simp only;have hd:∀ rest,q.l=p.l++46::rest->q.l.drop (p.l.length+1)=rest:=λ rest h=>by
   rw[h,show p.l++46::rest=(p.l++[46])++rest by simp,List.drop_left' (by simp)]
  have ext:∀ x y:Str,x.l=y.l->x=y:=λ x y h=>by cases x;cases y;simp only at h;rw[h]
  have ne:∀ rest,q.l=p.l++46::rest->q≠p:=λ rest h e=>by
   rw[e] at h;have:=congrArg List.length h;simp at this
  constructor
  ·
   rintro (h | ⟨rest,h⟩)
   ·
    have h':q.l=p.l++46::s.l:=by rw[h];simp
    exact⟨ne _ h',.inr ⟨_,h'⟩,.inl (ext _ _ (hd _ h'))⟩
   ·
    have h':q.l=p.l++46::(s.l++46::rest):=by rw[h];simp
    exact⟨ne _ h',.inr ⟨_,h'⟩,.inr ⟨rest,hd _ h'⟩⟩
  ·
   rintro ⟨h1,h2 | ⟨r1,h2⟩,h3⟩
   ·
    exact absurd h2 h1
   ·
    rw[hd _ h2] at h3;rcases h3 with h3 | ⟨rest,h3⟩
    ·
     exact .inl (ext _ _ (by rw[h2,← h3];simp))
    ·
     exact .inr ⟨rest,by rw[h2,h3];simp⟩
theorem low_slash{s:Str}(h:zM s=true):(47:UInt8) ∉ s.l:=by
 unfold zM at h;rw[Bool.and_eq_true] at h;intro hm;have:=List.all_eq_true.1 h.2 _ hm
 revert this;decide
theorem part_ne{s:Str}(h:zM s=true):s≠yv:=λ e=>by
 have:=(xl h).1;rw[e] at this;simp[yv] at this
theorem mark_dir{t:Tree}(hv:zR t=true){r:Int}{p s:Str}(hs:zM s=true):xu (Xd t r p) (mark s)=qe t.files r (child p s):=by
 have h0:=part_ne hs;have hdot:=X1 hs;have hc:child p s≠yv:=by
  unfold child;split
  ·
   exact h0
  ·
   intro e;have:=congrArg (λ x:Str=>x.l.length) e;simp[yv] at this
 have hm:∀ x:List UInt8,x++[47]=s.l++[47] ↔ x=s.l:=λ x=>by simp
 have h47:(47:UInt8)∈(mark s).l:=by simp[mark]
 have key:∀ f∈t.files,(mark s∈jI r p f ↔ XX r (child p s) f=true):=λ f hf=>by
  have hvf:=qH hv hf;have hvp:=qf hvf;unfold jI XX;by_cases hr:f.root=r
  ·
   rw[if_neg (by simp[cmpI,hr]),show(f.root == r)=true by simp[hr],Bool.true_and];by_cases hpk:f.pkg=p
   ·
    rw[if_pos hpk];constructor
    ·
     intro h;have h:=List.mem_singleton.1 h;cases hi:f.init with
     |
      true=>
      rw[hi,if_pos rfl] at h;rw[h] at h47;exact absurd h47 (by decide)
     |
      false=>
      rw[hi,if_neg (by decide)] at h;unfold yC at hvf;split at hvf
      ·
       cases hvf
      ·
       rw[hi,if_neg (by decide),Bool.and_eq_true] at hvf;rw[h] at h47;exact absurd h47 (low_slash hvf.1)
    ·
     intro h;rw[Bool.and_eq_true] at h;exact absurd hpk ((zbf (oD h.1) hdot h0).1 h.2).1
   ·
    rw[if_neg hpk,XR hvp];by_cases he:f.pkg=yv
    ·
     rw[show decide (f.pkg≠(⟨[]⟩:Str))=false by rw[he];rfl,show decide (f.pkg≠yv)=false by rw[he];rfl];simp
    ·
     rw[show decide (f.pkg≠(⟨[]⟩:Str))=true from decide_eq_true he,show decide (f.pkg≠yv)=true from decide_eq_true he,Bool.true_and,Bool.true_and,zbf he hdot h0];by_cases hu:under f.pkg p=true
     ·
      rw[if_pos hu,List.mem_singleton];constructor
      ·
       intro h;have h:=congrArg Str.l h;have h2:s.l=(Yr f.pkg p).l:=by simpa[mark] using h
       exact⟨hpk,hu,by cases hx:Yr f.pkg p;cases s;rw[hx] at h2;simp only at h2;rw[h2]⟩
      ·
       rintro ⟨_,_,h⟩
       rw[h];rfl
     ·
      rw[if_neg hu];simp[hu]
  ·
   rw[if_pos (by simp[cmpI,hr]),show(f.root == r)=false by simp[hr]];simp
 rw[Bool.eq_iff_iff,XO];unfold Xd qe;rw[(Xm _).2,List.mem_flatMap,Bool.or_eq_true,List.any_eq_true];constructor
 ·
  rintro ⟨f,hf,h⟩;exact .inl ⟨f,hf,(key f hf).1 h⟩
 ·
  rintro (⟨f,hf,h⟩ | h)
  ·
   exact⟨f,hf,(key f hf).2 h⟩
  ·
   exact absurd (oD h) hc
theorem file_text{t:Tree}{r:Int}{p s:Str}(h:cmpI .geq (yh t.files ⟨r,p,s,false,0,[]⟩) 0=true):xu (Xd t r p) s=true:=by
 unfold yh at h;rw[Yo,List.any_eq_true] at h;obtain⟨f,hf,hs⟩:=h;unfold xq at hs;simp only[Bool.and_eq_true,beq_iff_eq,decide_eq_true_eq] at hs;obtain⟨⟨⟨h1,h2⟩,h3⟩,h4⟩:=hs;rw[XO];unfold Xd;rw[(Xm _).2,List.mem_flatMap];refine⟨f,hf,?_⟩;unfold jI;rw[if_neg (by simp[cmpI,h1]),if_pos h2,h3,h4];simp
theorem zb2{d:Disk}(hv:zR d.tree=true){p s:Str}(hs:zM s=true):∀ (rs acc:List Int) (f:Finder),Jx f d->(zT d p s f acc rs).2=ZC d.tree.files p s acc rs/\Jx (zT d p s f acc rs).1 d
 | [],acc,f,h=>⟨rfl,h⟩
 |
  r::rs,acc,f,h=>by
  obtain⟨h1,h2⟩:=fill_fresh (r:=r) (p:=p) h;unfold zT ZC;rw[h1,mark_dir hv hs,Bool.and_self];have e:(xu (Xd d.tree r p) s&&cmpI .geq (yh d.tree.files ⟨r,p,s,false,0,[]⟩) 0)=cmpI .geq (yh d.tree.files ⟨r,p,s,false,0,[]⟩) 0:=by
   cases hc:cmpI .geq (yh d.tree.files ⟨r,p,s,false,0,[]⟩) 0 with
   | true=>rw[file_text hc];rfl
   | false=>rw[Bool.and_false]
  rw[e];split
  ·
   exact⟨rfl,h2⟩
  ·
   split
   ·
    exact⟨rfl,h2⟩
   ·
    exact zb2 hv hs rs _ _ h2
theorem zbg{d:Disk}(hv:zR d.tree=true){list:List Str}:∀ (xs:List Str) (k:Nat) (f:Finder) (out:Spec),(∀ x∈xs,zM x=true)->Jx f d->(yt d list k f out xs).2=Wc d.tree.files list k out xs/\Jx (yt d list k f out xs).1 d
 | [],_,_,_,_,h=>⟨rfl,h⟩
 |
  x::xs,k,f,out,hx,h=>by
  unfold yt Wc;split
  ·
   exact⟨rfl,h⟩
  ·
   obtain⟨h1,h2⟩:=zb2 hv (hx x (by simp)) (p:=join (list.take k)) out.roots [] f h;have h3:(zT d (join (list.take k)) x f [] out.roots).2=Jc d.tree.files out.roots (join (list.take k)) x:=h1;rw[h3];exact zbg hv xs (k+1) _ _ (λ y hy=>hx y (by simp[hy])) h2
theorem zb3{f:Finder}{d:Disk}(hv:zR d.tree=true){path:List Int}{s:Str}(hs:zF s=true)(h:Jx f d):(qd f d path s).2=find d.tree.files path s/\Jx (qd f d path s).1 d:=
 zbg hv _ _ _ _ (jc hs).1 h
def DirsOk(l:List Dir):Prop:=l.length<=20/\(∀ x∈l,inR x.root 0 2=true/\zy x.pkg=true/\inR x.stamp 0 200=true/\x.names.length<=12)/\(∀ (i j:Nat) (x y:Dir),l[i]?=some x->l[j]?=some y->i<j->¬ (x.root=y.root/\x.pkg=y.pkg))
theorem zbh{l:List Dir}:wY 200 12 l=true ↔ DirsOk l:=by
 have key:∀ (k:Nat) (d:Dir),l[k]?=some d->(Z6 200 12 l k=true ↔ (inR d.root 0 2=true/\zy d.pkg=true/\inR d.stamp 0 200=true/\d.names.length<=12)/\∀ (i:Nat) (x:Dir),l[i]?=some x->i<k->¬ (x.root=d.root/\x.pkg=d.pkg)):=by
  intro k d hd;unfold Z6;rw[hd];simp only[Bool.not_eq_true',Bool.or_eq_false_iff,Bool.not_eq_false',List.any_eq_false];constructor
  ·
   rintro ⟨⟨⟨⟨a1,a2⟩,a3⟩,a4⟩,a5⟩
   refine⟨⟨a1,a2,a3,?_⟩,λ i x hx hi he=>?_⟩
   ·
    simp[cmpI] at a4;omega
   ·
    refine a5 x ?_ (Wr.2 he);have:(l.take k)[i]?=some x:=by rw[List.getElem?_take,if_pos hi,hx]
    exact List.mem_of_getElem? this
  ·
   rintro ⟨⟨a1,a2,a3,a4⟩,a5⟩
   refine⟨⟨⟨⟨a1,a2⟩,a3⟩,by simp[cmpI];omega⟩,λ x hx he=>?_⟩;obtain⟨i,hi⟩:=List.getElem?_of_mem hx;have hik:i<k:=by have:=yg hi;simp at this;omega
   rw[List.getElem?_take,if_pos hik] at hi;exact a5 i x hi hik (Wr.1 he)
 unfold wY DirsOk;rw[Bool.and_eq_true,List.all_eq_true];constructor
 ·
  rintro ⟨h1,h2⟩
  refine⟨by simp[cmpI] at h2;omega,λ x hx=>?_,λ i j x y hx hy hij=>?_⟩
  ·
   obtain⟨k,hk⟩:=List.getElem?_of_mem hx;exact((key k x hk).1 (h1 k (List.mem_range.2 (yg hk)))).1
  ·
   exact((key j y hy).1 (h1 j (List.mem_range.2 (yg hy)))).2 i x hx hij
 ·
  rintro ⟨h1,h2,h3⟩
  refine⟨λ k hk=>?_,by simp[cmpI];omega⟩;obtain⟨d,hd,hm⟩:=xM (List.mem_range.1 hk);exact(key k d hd).2 ⟨h2 d hm,λ i x hx hi=>h3 i k x d hx hd hi⟩
def FindOk(f:Finder):Prop:=DirsOk f.dirs/\inR f.fills 0 1000=true/\inR f.hits 0 1000=true
theorem xE{f:Finder}:xN f=true ↔ FindOk f:=by
 unfold xN FindOk;rw[Bool.and_eq_true,Bool.and_eq_true,zbh,and_assoc]
structure DiskOk(d:Disk):Prop where
 tree:zR d.tree=true
 clock:0<=d.clock/\d.clock<=200
 dirs:wY d.clock 0 d.dirs=true
theorem YO{d:Disk}(h:wZ d=true):DiskOk d:=by
 unfold wZ at h;rw[Bool.and_eq_true,Bool.and_eq_true] at h;have:=h.1.2;unfold inR at this;rw[Bool.and_eq_true] at this;exact⟨h.1.1,⟨oD this.1,oD this.2⟩,h.2⟩
theorem DiskOk.ok{d:Disk}(h:DiskOk d):DirsOk d.dirs:=by
 have h1:=h.dirs;rw[J7 (by unfold inR;simp[cmpI];exact h.clock),Bool.and_eq_true] at h1;exact zbh.1 h1.2
theorem upI_in{n:Int}(h:inR n 0 1000=true):inR (upI n) 0 1000=true:=by
 unfold inR upI at*;rw[Bool.and_eq_true] at*;have h1:0<=n:=oD h.1;split
 ·
  exact⟨decide_eq_true (by omega),decide_eq_true (by assumption)⟩
 ·
  exact⟨by decide,by decide⟩
theorem stampL_in{d:Disk}(h:DiskOk d)(r:Int)(p:Str):inR (ZO d r p) 0 200=true:=by
 unfold ZO;cases hk:dirK d.dirs r p with
 | none=>exact(by decide:inR 0 0 200=true)
 |
  some k=>
  obtain⟨_,h2,_⟩:=qJ hk;exact(h.ok.2.1 _ (List.mem_of_getElem? h2)).2.2.1
theorem listL_len{t:Tree}(h:zR t=true)(r:Int)(p:Str):(Xd t r p).length<=12:=by
 have h1:=za9 (t.files.flatMap (jI r p));have h2:=zai r p t.files;have h3:=ZY h;unfold Xd;omega
theorem fill_ok{f:Finder}{d:Disk}(hf:FindOk f)(hd:DiskOk d){r:Int}{p:Str}(hr:inR r 0 2=true)(hp:zy p=true):FindOk (xe f d r p).1:=by
 obtain⟨⟨h1,h2,h3⟩,h4,h5⟩:=hf;have hx:inR (Ys d r p).root 0 2=true/\zy (Ys d r p).pkg=true/\inR (Ys d r p).stamp 0 200=true/\(Ys d r p).names.length<=12:=⟨hr,hp,stampL_in hd r p,listL_len hd.tree r p⟩;unfold xe;cases hk:dirK f.dirs r p with
 |
  some k=>
  obtain⟨k1,k2,k3,k4⟩:=qJ hk;simp only;split
  ·
   exact⟨⟨h1,h2,h3⟩,h4,upI_in h5⟩
  ·
   have hget:∀ (i:Nat) (x:Dir),(f.dirs.set k (Ys d r p))[i]?=some x->∃ y:Dir,f.dirs[i]?=some y/\x.root=y.root/\x.pkg=y.pkg:=λ i x hi=>by
    by_cases e:k=i
    ·
     subst e;rw[List.getElem?_set_self k1] at hi;injection hi with hi;subst hi;exact⟨_,k2,k3.symm,k4.symm⟩
    ·
     rw[List.getElem?_set_ne e] at hi;exact⟨x,hi,rfl,rfl⟩
   refine⟨⟨by simpa using h1,λ x hm=>?_,λ i j x y hi hj hij he=>?_⟩,upI_in h4,h5⟩
   ·
    rcases List.mem_or_eq_of_mem_set hm with hm | rfl
    ·
     exact h2 x hm
    ·
     exact hx
   ·
    obtain⟨x',a1,a2,a3⟩:=hget i x hi;obtain⟨y',b1,b2,b3⟩:=hget j y hj;exact h3 i j x' y' a1 b1 hij ⟨by rw[← a2,← b2];exact he.1,by rw[← a3,← b3];exact he.2⟩
 |
  none=>
  have hno:=dirK_none hk;refine⟨?_,upI_in h4,h5⟩;show DirsOk (if f.dirs.length<20 then f.dirs++[Ys d r p] else f.dirs);split
  ·
   refine⟨by simp;omega,λ x hm=>?_,λ i j x y hi hj hij he=>?_⟩
   ·
    rcases List.mem_append.1 hm with hm | hm
    ·
     exact h2 x hm
    ·
     rw[List.mem_singleton.1 hm];exact hx
   ·
    have hjl:=yg hj;simp only[List.length_append,List.length_singleton] at hjl;rw[List.getElem?_append_left (by omega)] at hi;by_cases e:j<f.dirs.length
    ·
     rw[List.getElem?_append_left e] at hj;exact h3 i j x y hi hj hij he
    ·
     have e2:j=f.dirs.length:=by omega
     subst e2;rw[List.getElem?_append_right (Nat.le_refl _)] at hj;simp only[Nat.sub_self,List.getElem?_cons_zero] at hj;injection hj with hj;subst hj;exact hno x (List.mem_of_getElem? hi) he
  ·
   exact⟨h1,h2,h3⟩
theorem runK_ok{d:Disk}(hd:DiskOk d){p s:Str}(hp:zy p=true):∀ (rs acc:List Int) (f:Finder),FindOk f->(∀ r∈rs,inR r 0 2=true)->(∀ r∈acc,inR r 0 2=true)->FindOk (zT d p s f acc rs).1/\∀ r∈(zT d p s f acc rs).2.roots,inR r 0 2=true
 |
  [],acc,f,h,_,ha=>by
  unfold zT;refine⟨h,?_⟩;simp only;split
  ·
   exact ha
  ·
   intro r hr;cases hr
 |
  r::rs,acc,f,h,hr,ha=>by
  have h1:=fill_ok h hd (hr r (by simp)) hp;unfold zT;split
  ·
   exact⟨h1,λ x hx=>by rw[List.mem_singleton.1 hx];exact hr r (by simp)⟩
  ·
   split
   ·
    exact⟨h1,λ x hx=>by cases hx⟩
   ·
    refine runK_ok hd hp rs _ _ h1 (λ x hx=>hr x (by simp[hx])) λ x hx=>?_
    split at hx
    ·
     rcases List.mem_append.1 hx with hx | hx
     ·
      exact ha x hx
     ·
      rw[List.mem_singleton.1 hx];exact hr r (by simp)
    ·
     exact ha x hx
theorem restK_ok{d:Disk}(hd:DiskOk d){list:List Str}(hl:∀ k,zy (join (list.take k))=true):∀ (xs:List Str) (k:Nat) (f:Finder) (out:Spec),FindOk f->(∀ r∈out.roots,inR r 0 2=true)->FindOk (yt d list k f out xs).1
 | [],_,_,_,h,_=>h
 |
  x::xs,k,f,out,h,ho=>by
  unfold yt;split
  ·
   exact h
  ·
   obtain⟨h1,h2⟩:=runK_ok hd (hl k) (s:=x) out.roots [] f h ho λ x hx=>by cases hx
   exact restK_ok hd hl xs (k+1) _ _ h1 h2
theorem path_in{path:List Int}(h:ym path=true):∀ r∈path,inR r 0 2=true:=λ r hr=>by
 unfold ym XY at h;rw[List.all_eq_true] at h;obtain⟨k,hk⟩:=List.getElem?_of_mem hr;have:=h k (List.mem_range.2 (yg hk));unfold Wy at this;rw[hk] at this;simp only at this;cases hi:inR r 0 2 with
 | true=>rfl
 | false=>rw[hi] at this;simp at this
theorem zak{f:Finder}{d:Disk}(hf:FindOk f)(hd:DiskOk d){path:List Int}{s:Str}(hp:ym path=true)(hs:zF s=true):FindOk (qd f d path s).1:=
 restK_ok hd (JJ hs) _ _ _ _ hf (path_in hp)
theorem idxOf_get{α:Type}{p:α->Bool}{l:List α}(h:cmpI .geq (jA p l) 0=true):∃ k x,jA p l=((k:Nat):Int)/\l[k]?=some x/\p x=true:=by
 unfold jA at h ⊢;cases hk:l.findIdx? p with
 | none=>rw[hk] at h;exact absurd h (by decide:¬ cmpI .geq (-1:Int) 0=true)
 |
  some k=>
  obtain⟨h1,h2,_⟩:=List.findIdx?_eq_some_iff_getElem.1 hk;exact⟨k,l[k],rfl,List.getElem?_eq_getElem h1,h2⟩
def tells(t:Tree)(n:Str)(out:Spec):Prop:=out.file<0\/∃ k f,out.file=((k:Nat):Int)/\t.files[k]?=some f/\xT f=n
theorem zb4{d:Disk}{p s:Str}:∀ (rs acc:List Int) (f:Finder),tells d.tree (child p s) (zT d p s f acc rs).2
 |
  [],acc,f=>by
  unfold zT;simp only;split
  ·
   exact .inl (by show(-1:Int)<0;decide)
  ·
   exact .inl (by decide)
 |
  r::rs,acc,f=>by
  unfold zT;split
  ·
   rename_i hc;rw[Bool.and_eq_true] at hc;obtain⟨k,x,h1,h2,h3⟩:=idxOf_get hc.2;unfold xq at h3;simp only[Bool.and_eq_true,beq_iff_eq,decide_eq_true_eq] at h3;refine .inr ⟨k,x,h1,h2,?_⟩;unfold xT;rw[h3.1.2];exact h3.1.1.2
  ·
   split
   ·
    rename_i hc;rw[Bool.and_eq_true] at hc;obtain⟨k,x,h1,h2,h3⟩:=idxOf_get hc.2;unfold xq at h3;simp only[Bool.and_eq_true,beq_iff_eq,decide_eq_true_eq] at h3;refine .inr ⟨k,x,h1,h2,?_⟩;unfold xT;rw[h3.1.2,h3.1.1.2,h3.2];rfl
   ·
    exact zb4 rs _ _
theorem zb5{d:Disk}{list:List Str}:∀ (xs:List Str) (k:Nat) (f:Finder) (out:Spec) (x:Str),(yt d list k f out (xs++[x])).2=Yf\/∃ g r,(yt d list k f out (xs++[x])).2=(zT d (join (list.take (k+xs.length))) x g [] r).2
 |
  [],k,f,out,x=>by
  rw[List.nil_append];unfold yt yt;split
  ·
   exact .inl rfl
  ·
   exact .inr ⟨_,_,rfl⟩
 |
  y::xs,k,f,out,x=>by
  rw[List.cons_append];unfold yt;split
  ·
   exact .inl rfl
  ·
   have:=zb5 (d:=d) (list:=list) xs (k+1) (zT d (join (list.take k)) y f [] out.roots).1 (zT d (join (list.take k)) y f [] out.roots).2 x;rwa[show k+1+xs.length=k+(y::xs).length by simp;omega] at this
theorem seen_tells{f:Finder}{d:Disk}{path:List Int}{n:Str}(hn:zF n=true):tells d.tree n (qd f d path n).2:=by
 obtain⟨hparts,_⟩:=jc hn;have hne:=QL n dot;obtain⟨xs,x,hxs⟩:∃ xs x,zu n dot=xs++[x]:=by
  have h0:zu n dot≠[]:=by intro e;rw[e] at hne;simp at hne
  exact⟨_,_,(List.dropLast_concat_getLast h0).symm⟩
 have hg:(zu n dot)[xs.length]?=some x:=by rw[hxs];simp
 have hj:=WK hg hparts;rw[show xs.length+1=(zu n dot).length by rw[hxs];simp,List.take_length,join_split] at hj;unfold qd;have:=zb5 (d:=d) (list:=zu n dot) xs 0 f ⟨3,-1,path⟩ x;rw[← hxs,Nat.zero_add] at this;rcases this with h | ⟨g,r,h⟩
 ·
  rw[h];exact .inl (by decide)
 ·
  rw[h];have:=zb4 (d:=d) (p:=join ((zu n dot).take xs.length)) (s:=x) r [] g;rwa[← hj] at this
open Go.RowKit
theorem has_any(l:List Str)(x:Str):xu l x=l.any λ y=>decide (y=x):=by
 unfold xu textAt;rw[Yo]
theorem has_spec{l:List Str}{x:Str}(h:l.length<=1048576):qq l x=some (xu l x):=by
 unfold qq YS;have hl:zS (λ s4=>wx l x s4) 0=some (match l.findIdx? (λ y=>decide (y=x)) with | some i=>(Sum.inr (i:Int):Unit⊕Int) | none=>Sum.inl ()):=by
  refine Wo l (λ y=>decide (y=x)) (λ i=>Sum.inr i) _ (λ k y hx hlt=>?_) ?_ (by omega) rfl
  ·
   unfold wx;rw[zK,if_pos (decide_eq_true hlt),yb,hx,obS,zV (by omega)];cases decide (y=x) <;> rfl
  ·
   unfold wx;rw[zK,if_neg (by simp)]
 have e:Option.bind (α:=Unit⊕Int) (zS (λ s4=>wx l x s4) 0) (Sum.elim (λ _=>some (-1)) some)=some (jA (λ y=>decide (y=x)) l):=by
  rw[hl];unfold jA;cases l.findIdx? (λ y=>decide (y=x)) <;> rfl
 rw[e,obS];rfl
theorem has_impl{l:List Str}{x:Str}(h:l.length<=1048576):yp l x=some (xu l x):=by
 unfold yp xG;have hl:zS (λ s4=>yf l x s4) 0=some (match l.findIdx? (λ y=>decide (x=y)) with | some i=>(Sum.inr (i:Int):Unit⊕Int) | none=>Sum.inl ()):=by
  refine Wo l (λ y=>decide (x=y)) (λ i=>Sum.inr i) _ (λ k y hx hlt=>?_) ?_ (by omega) rfl
  ·
   unfold yf;rw[zK,if_pos (decide_eq_true hlt),yb,hx,obS,zV (by omega)];cases decide (x=y) <;> rfl
  ·
   unfold yf;rw[zK,if_neg (by simp)]
 have e:Option.bind (α:=Unit⊕Int) (zS (λ s4=>yf l x s4) 0) (Sum.elim (λ _=>some (-1)) some)=some (jA (λ y=>decide (x=y)) l):=by
  rw[hl];unfold jA;cases l.findIdx? (λ y=>decide (x=y)) <;> rfl
 rw[e,obS,Yo,has_any]
 congr 2
 funext y
 rw[decide_eq_decide];exact eq_comm
theorem zal(l:List Dir)(r:Int)(p:Str):jA (qh r p) l=match dirK l r p with | some i=>((i:Nat):Int) | none=>-1:=rfl
theorem DirsOk.sm{l:List Dir}(h:DirsOk l):l.length<=1048576:=by have:=h.1;omega
theorem FindOk.sm{f:Finder}(h:FindOk f):f.dirs.length<=1048576:=h.1.sm
theorem DiskOk.sm{d:Disk}(h:DiskOk d):d.dirs.length<=1048576:=h.ok.sm
theorem Jy{n a b:Int}(h:inR n a b=true):a<=n/\n<=b:=by
 unfold inR at h;rw[Bool.and_eq_true] at h;exact⟨oD h.1,oD h.2⟩
theorem Ws{d:Disk}{r:Int}{p:Str}(h:d.dirs.length<=1048576):xC d r p=some (ZO d r p)/\xD d r p=some (ZO d r p):=by
 unfold xC xD;rw[zah h,Wq h,obS,zal];unfold ZO;cases hk:dirK d.dirs r p with
 | none=>exact⟨rfl,rfl⟩
 |
  some k=>
  obtain⟨_,h2,_⟩:=qJ hk;have hc:cmpI .lss ((k:Nat):Int) 0=false:=by simp[cmpI]
  simp only;rw[hc,if_neg (by decide),yb,h2];exact⟨rfl,rfl⟩
theorem upI_a{n:Int}:(if(1000:Int)<n+1 then(1000:Int) else n+1)=upI n:=by unfold upI;split <;> split <;> omega
theorem upI_b{n:Int}:(if n+1<(1000:Int) then n+1 else(1000:Int))=upI n:=by unfold upI;split <;> split <;> omega
theorem zb6{f:Finder}{d:Disk}(hf:FindOk f)(hd:DiskOk d)(r:Int)(p:Str):(xe f d r p).2.length<=12:=by
 have hl:=listL_len hd.tree r p;unfold xe;cases hk:dirK f.dirs r p with
 | none=>exact hl
 |
  some k=>
  obtain⟨_,h2,_⟩:=qJ hk;simp only;split
  ·
   exact(hf.1.2.1 _ (List.mem_of_getElem? h2)).2.2.2
  ·
   exact hl
section
variable{f:Finder}{d:Disk}{r:Int}{p:Str}
theorem ask_eq(hf:FindOk f)(hd:DiskOk d)(ht:xc d.tree)(hp:zy p=true):j0 f d r p=some (xe f d r p):=by
 have hfl:=hf.1.1;have hfi:=Jy hf.2.1;have hhi:=Jy hf.2.2;unfold j0;rw[(Ws hd.sm).1,obS,zah hf.sm,obS,zal,wn (n:=f.hits+1) (by omega) (by omega),wn (n:=f.fills+1) (by omega) (by omega),Qr ht hd.tree hp];simp only[obS,upI_a];unfold xe;cases hk:dirK f.dirs r p with
 |
  none=>
  simp only;rw[show cmpI .geq (-1:Int) 0=false from rfl,show((false:Bool) == true)=false from rfl,gO_false,obS,Bool.false_and,if_neg (by decide),if_neg (by decide)];by_cases hl:f.dirs.length<20
  ·
   rw[if_pos (by simp[cmpI];omega),wq (by simp;omega) (by simp;omega),if_pos hl];rfl
  ·
   rw[if_neg (by simp[cmpI];omega),if_neg hl];rfl
 |
  some k=>
  obtain⟨h1,h2,h3,h4⟩:=qJ hk;have hc:cmpI .geq ((k:Nat):Int) 0=true:=by simp[cmpI]
  simp only;rw[hc,show((true:Bool) == true)=true from rfl,qa,yb,h2,obS,Bool.true_and];generalize f.dirs.getD k default=x at h2 h3 h4 ⊢;by_cases hs:x.stamp=ZO d r p
  ·
   rw[if_pos (by simp[cmpI,hs]),if_pos hs,obS]
  ·
   rw[if_neg (by simp[cmpI,hs]),if_neg hs,if_pos rfl];rfl
theorem filled_eq(hf:FindOk f)(hd:DiskOk d)(ht:xc d.tree)(hp:zy p=true):ZW f d r p=some (xe f d r p):=by
 have hfl:=hf.1.1;have hfi:=Jy hf.2.1;have hhi:=Jy hf.2.2;unfold ZW;rw[(Ws hd.sm).2,Wq hf.sm,obS,zal,obS,wn (n:=f.hits+1) (by omega) (by omega),wn (n:=f.fills+1) (by omega) (by omega),zb0 ht hd.tree hp];simp only[obS,upI_b];unfold xe;cases hk:dirK f.dirs r p with
 |
  none=>
  simp only;rw[show cmpI .geq (-1:Int) 0=false from rfl,show((false:Bool) == true)=false from rfl,gO_false,obS,Bool.false_and,if_neg (by decide),if_neg (by decide)];by_cases hl:f.dirs.length<20
  ·
   rw[if_pos (by simp[cmpI];omega),wq (by simp;omega) (by simp;omega),if_pos hl];rfl
  ·
   rw[if_neg (by simp[cmpI];omega),if_neg hl];rfl
 |
  some k=>
  obtain⟨h1,h2,h3,h4⟩:=qJ hk;have hc:cmpI .geq ((k:Nat):Int) 0=true:=by simp[cmpI]
  simp only;rw[hc,show((true:Bool) == true)=true from rfl,qa,yb,h2,obS,Bool.true_and];generalize f.dirs.getD k default=x at h2 h3 h4 ⊢;by_cases hs:x.stamp=ZO d r p
  ·
   rw[if_pos (by simp[cmpI,hs]),if_pos hs,obS]
  ·
   rw[if_neg (by simp[cmpI,hs]),if_neg hs,if_pos rfl];rfl
end
def XS(d:Disk)(p s:Str){β:Type}(out:Finder×Spec->β)(σ:Finder×List Int)(r:Int):(Finder×List Int)⊕β:=
 if(xu (xe σ.1 d r p).2 (mark s)&&cmpI .geq (yh d.tree.files ⟨r,child p s,⟨[]⟩,true,0,[]⟩) 0)=true then .inr (out ((xe σ.1 d r p).1,⟨2,yh d.tree.files ⟨r,child p s,⟨[]⟩,true,0,[]⟩,[r]⟩))
 else if(xu (xe σ.1 d r p).2 s&&cmpI .geq (yh d.tree.files ⟨r,p,s,false,0,[]⟩) 0)=true then .inr (out ((xe σ.1 d r p).1,⟨1,yh d.tree.files ⟨r,p,s,false,0,[]⟩,[]⟩))
 else .inl ((xe σ.1 d r p).1,if(xu (xe σ.1 d r p).2 (mark s)&&qe d.tree.files r (child p s))=true then σ.2++[r] else σ.2)
theorem runL_K{d:Disk}{p s:Str}{β γ:Type}(out:Finder×Spec->β)(fin:Finder×List Int->β)(E:β->γ)(F:Finder×Spec->γ)(h1:∀ q,E (out q)=F q)(h2:∀ σ:Finder×List Int,E (fin σ)=F (σ.1,if cmpI .gtr σ.2.length 0=true then⟨3,-1,σ.2⟩ else Yf)):
  ∀ (rs:List Int) (k:Nat) (f:Finder) (acc:List Int),E (runL (λ _ σ r=>XS d p s out σ r) fin k (f,acc) rs)=F (zT d p s f acc rs):=by
 intro rs
 induction rs with
 | nil=>intro k f acc;unfold zT;rw[runL];exact h2 _
 |
  cons r rs ih=>
  intro k f acc;unfold zT;rw[runL];unfold XS;simp only;cases(xu (xe f d r p).2 (mark s)&&cmpI .geq (yh d.tree.files ⟨r,child p s,⟨[]⟩,true,0,[]⟩) 0) with
  | true=>exact h1 _
  |
   false=>
   cases(xu (xe f d r p).2 s&&cmpI .geq (yh d.tree.files ⟨r,p,s,false,0,[]⟩) 0) with
   | true=>exact h1 _
   | false=>exact ih _ _ _
section
variable{f:Finder}{d:Disk}{p s:Str}{roots:List Int}
theorem find_k_eq(hf:FindOk f)(hd:DiskOk d)(ht:xc d.tree)(hr:roots.length<=1048576)(hin:∀ r∈roots,inR r 0 2=true)(hp:zy p=true)(hs:zM s=true)(hc:zF (child p s)=true):ZV d d.tree roots p s f=some (zT d p s f [] roots):=by
 have hpl:=yn hp;have hsl:=(xl hs).2;have hcl:=y8 hc;have hne:=child_ne hc;have hcp:zy (child p s)=true:=by unfold zy;rw[hc,Bool.or_true]
 have he:ZK p s=child p s:=by unfold ZK;rw[hp,hs,hc];rfl
 have hg:Good d.tree:=⟨ht,hd.tree⟩;unfold ZV;rw[YN (by omega),he,obS,if_neg (by simp only[decide_eq_true_eq];exact hne)];have hl:zS (λ s19=>wA d d.tree roots p s (child p s) s19) (f,zO,[],(0:Int))=some (runL (λ _ σ r=>XS d p s (Sum.inr (α:=Finder×Spec×List Int)) σ r) (λ σ=>Sum.inl (σ.1,zO,σ.2)) 0 (f,[]) roots):=by
  refine XF (σ:=Finder×List Int) roots (λ σ k=>(σ.1,zO,σ.2,(k:Int))) _ _ (λ k σ=>FindOk σ.1/\σ.2.length<=k) (λ k σ r hx hlt hi=>?_) (λ σ _=>?_) (s0:=(f,[])) ⟨hf,Nat.le_refl 0⟩ (by omega)
  ·
   obtain⟨hfo,hal⟩:=hi;have hri:=hin r (List.mem_of_getElem? hx);have hfo2:=fill_ok hfo hd hri hp;have hnl:=zb6 hfo hd r p;have hst:wA d d.tree roots p s (child p s) (σ.1,zO,σ.2,(k:Int))=(match XS d p s (Sum.inr (α:=Finder×Spec×List Int)) σ r with
     | .inl σ'=>some (.inl (σ'.1,zO,σ'.2,((k+1:Nat):Int))) | .inr b=>some (.inr b)):=by
    unfold wA qk;dsimp only;have hcat:catO s ⟨[47]⟩=some (mark s):=Zh (by show s.l.length+1<=_;omega);have happ:appO 8 σ.2 [r]=some (σ.2++[r]):=wq (by simp;omega) (by simp;omega);have hn2:(xe σ.1 d r p).2.length<=1048576:=by omega
    rw[zK,if_pos (decide_eq_true hlt),yb,hx,obS,if_pos rfl,ask_eq hfo hd ht hp,obS,obS,hcat,obS];dsimp only;rw[has_impl hn2,obS,has_impl hn2,obS,obS,JI hg.len,obS,JI hg.len,obS,hasDir_eq ht hg.pkg hcp (by omega),zV (by omega)];rw[zU,obS,happ];unfold XS;generalize xu (xe σ.1 d r p).2 (mark s)=b0;generalize xu (xe σ.1 d r p).2 s=b3;generalize cmpI .geq (yh d.tree.files ⟨r,child p s,⟨[]⟩,true,0,[]⟩) 0=b1;generalize cmpI .geq (yh d.tree.files ⟨r,p,s,false,0,[]⟩) 0=b2;generalize qe d.tree.files r (child p s)=b4;cases b0 <;> cases b1 <;> cases b2 <;> cases b3 <;> cases b4 <;> rfl
   rw[hst];have hinv:∀ σ',XS d p s (Sum.inr (α:=Finder×Spec×List Int)) σ r=.inl σ'->FindOk σ'.1/\σ'.2.length<=k+1:=λ σ' h=>by
    unfold XS at h;split at h
    ·
     cases h
    ·
     split at h
     ·
      cases h
     ·
      injection h with h;subst h;refine⟨hfo2,?_⟩;dsimp only;split
      ·
       simp;omega
      ·
       omega
   cases hsk:XS d p s (Sum.inr (α:=Finder×Spec×List Int)) σ r with
   | inl σ'=>exact⟨rfl,hinv σ' hsk⟩
   | inr b=>rfl
  ·
   unfold wA;dsimp only;rw[zK,if_neg (by simp)]
 rw[hl,obS];exact runL_K (Sum.inr (α:=Finder×Spec×List Int)) (λ σ=>Sum.inl (σ.1,zO,σ.2)) (Sum.elim (λ b17=>if(cmpI .gtr (b17.2.2.length:Int) (0:Int))=true then(some (b17.1,(⟨(3:Int),(-1:Int),b17.2.2⟩:Spec))) else((xi).bind λ v96=>some (b17.1,v96))) some) some (λ _=>rfl) (λ σ=>by
  simp only[Sum.elim_inl];split <;> rfl) roots 0 f []
theorem seenIn_eq(hf:FindOk f)(hd:DiskOk d)(ht:xc d.tree)(hr:roots.length<=1048576)(hin:∀ r∈roots,inR r 0 2=true)(hp:zy p=true)(hs:zM s=true)(hc:zF (child p s)=true):ZX f d roots p s=some (zT d p s f [] roots):=by
 have hpl:=yn hp;have hsl:=(xl hs).2;have hcl:=y8 hc;have hch:Yk p s=some (child p s):=if_pos (by omega);have hfa:∀ g,ZT d.tree g=some (yh d.tree.files g):=λ g=>if_pos trivial
 have hhd:∀ r,YU d.tree r (child p s)=some (qe d.tree.files r (child p s)):=λ r=>if_pos (by omega)
 unfold ZX;have hl:zS (λ s14=>wF d roots p s s14) (f,zi,zO,[],(0:Int))=some (runL (λ _ σ r=>XS d p s (Sum.inr (α:=Finder×Finder×Spec×List Int)) σ r) (λ σ=>Sum.inl (σ.1,zi,zO,σ.2)) 0 (f,[]) roots):=by
  refine XF (σ:=Finder×List Int) roots (λ σ k=>(σ.1,zi,zO,σ.2,(k:Int))) _ _ (λ k σ=>FindOk σ.1/\σ.2.length<=k) (λ k σ r hx hlt hi=>?_) (λ σ _=>?_) (s0:=(f,[])) ⟨hf,Nat.le_refl 0⟩ (by omega)
  ·
   obtain⟨hfo,hal⟩:=hi;have hri:=hin r (List.mem_of_getElem? hx);have hfo2:=fill_ok hfo hd hri hp;have hnl:=zb6 hfo hd r p;have hst:wF d roots p s (σ.1,zi,zO,σ.2,(k:Int))=(match XS d p s (Sum.inr (α:=Finder×Finder×Spec×List Int)) σ r with
     | .inl σ'=>some (.inl (σ'.1,zi,zO,σ'.2,((k+1:Nat):Int))) | .inr b=>some (.inr b)):=by
    unfold wF;dsimp only;have hcat:catO s ⟨[47]⟩=some (mark s):=Zh (by show s.l.length+1<=_;omega);have happ:appO 8 σ.2 [r]=some (σ.2++[r]):=wq (by simp;omega) (by simp;omega);have hn2:(xe σ.1 d r p).2.length<=1048576:=by omega
    rw[zK,if_pos (decide_eq_true hlt),yb,hx,obS,filled_eq hfo hd ht hp,obS,hcat,obS,has_spec hn2,obS,obS,hch,obS,hfa,obS,obS,obS,hfa,obS,has_spec hn2,obS,zV (by omega)];unfold XS;generalize xu (xe σ.1 d r p).2 (mark s)=b0;generalize xu (xe σ.1 d r p).2 s=b3;generalize cmpI .geq (yh d.tree.files ⟨r,child p s,⟨[]⟩,true,0,[]⟩) 0=b1;generalize cmpI .geq (yh d.tree.files ⟨r,p,s,false,0,[]⟩) 0=b2;cases b0
    ·
     cases b1 <;> cases b2 <;> cases b3 <;> rfl
    ·
     simp only[beq_self_eq_true,qa,obS,hhd,happ];generalize qe d.tree.files r (child p s)=b4;cases b1 <;> cases b2 <;> cases b3 <;> cases b4 <;> rfl
   rw[hst];have hinv:∀ σ',XS d p s (Sum.inr (α:=Finder×Finder×Spec×List Int)) σ r=.inl σ'->FindOk σ'.1/\σ'.2.length<=k+1:=λ σ' h=>by
    unfold XS at h;split at h
    ·
     cases h
    ·
     split at h
     ·
      cases h
     ·
      injection h with h;subst h;refine⟨hfo2,?_⟩;dsimp only;split
      ·
       simp;omega
      ·
       omega
   cases hsk:XS d p s (Sum.inr (α:=Finder×Finder×Spec×List Int)) σ r with
   | inl σ'=>exact⟨rfl,hinv σ' hsk⟩
   | inr b=>rfl
  ·
   unfold wF;dsimp only;rw[zK,if_neg (by simp)]
 rw[hl,obS];exact runL_K (Sum.inr (α:=Finder×Finder×Spec×List Int)) (λ σ=>Sum.inl (σ.1,zi,zO,σ.2)) (Sum.elim (λ b10=>if(cmpI .gtr (b10.2.2.2.length:Int) (0:Int))=true then(some (b10.1,(⟨(3:Int),(-1:Int),b10.2.2.2⟩:Spec))) else((Za).bind λ v253=>some (b10.1,v253))) some) some (λ _=>rfl) (λ σ=>by
  simp only[Sum.elim_inl];split <;> rfl) roots 0 f []
end
theorem runK_kind{d:Disk}{p s:Str}:∀ (rs acc:List Int) (f:Finder),okKind (zT d p s f acc rs).2
 |
  [],acc,f=>by
  unfold zT;dsimp only;split
  ·
   exact .inr (.inr (.inr rfl))
  ·
   exact .inl rfl
 |
  r::rs,acc,f=>by
  unfold zT;split
  ·
   exact .inr (.inr (.inl rfl))
  ·
   split
   ·
    exact .inr (.inl rfl)
   ·
    exact runK_kind rs _ _
theorem JK{d:Disk}{p s:Str}:∀ (rs acc:List Int) (f:Finder),(zT d p s f acc rs).2.roots.length<=acc.length+rs.length
 |
  [],acc,f=>by
  unfold zT;dsimp only;split
  ·
   exact Nat.le_refl _
  ·
   exact Nat.zero_le _
 |
  r::rs,acc,f=>by
  unfold zT;split
  ·
   show 1<=acc.length+(rs.length+1);omega
  ·
   split
   ·
    exact Nat.zero_le _
   ·
    refine Nat.le_trans (JK rs _ _) ?_;split
    ·
     simp only[List.length_append,List.length_cons,List.length_nil];omega
    ·
     simp only[List.length_cons];omega
def W0(d:Disk)(list:List Str){β:Type}(out:Finder×Spec->β)(k:Nat)(σ:Finder×Spec)(x:Str):(Finder×Spec)⊕β:=
 if(cmpI .neq σ.2.kind 2&&cmpI .neq σ.2.kind 3)=true then .inr (out (σ.1,Yf)) else .inl (zT d (join (list.take k)) x σ.1 [] σ.2.roots)
theorem runL_N{d:Disk}{list:List Str}{β γ:Type}(out:Finder×Spec->β)(fin:Finder×Spec->β)(E:β->γ)(F:Finder×Spec->γ)(h1:∀ q,E (out q)=F q)(h2:∀ q,E (fin q)=F q):
  ∀ (xs:List Str) (k:Nat) (σ:Finder×Spec),E (runL (λ k σ x=>W0 d list out k σ x) fin k σ xs)=F (yt d list k σ.1 σ.2 xs):=by
 intro xs
 induction xs with
 | nil=>intro k σ;unfold yt;rw[runL];exact h2 _
 |
  cons x xs ih=>
  intro k σ;unfold yt;rw[runL];unfold W0;cases(cmpI .neq σ.2.kind 2&&cmpI .neq σ.2.kind 3) with
  | true=>exact h1 _
  | false=>exact ih _ _
section
variable{f:Finder}{d:Disk}{path:List Int}{n:Str}
theorem findName_k_eq(hf:FindOk f)(hd:DiskOk d)(ht:xc d.tree)(hp:path.length<=1048576)(hpath:ym path=true)(hn:zF n=true):j4 d d.tree path n f=some (qd f d path n):=by
 have hnl:=y8 hn;obtain⟨hparts,hlen⟩:=jc hn;unfold j4;rw[zbR (by unfold sho;omega),hn,if_pos rfl,obS];have hl:zS (λ s16=>xj d d.tree (zu n dot) s16) (f,zO,(⟨(3:Int),(-1:Int),path⟩:Spec),(⟨[]⟩:Str),(0:Int))=some (runL (λ k σ x=>W0 d (zu n dot) (Sum.inr (α:=Finder×Spec×Spec)) k σ x) (λ σ=>Sum.inl (σ.1,zO,σ.2)) 0 (f,⟨3,-1,path⟩) (zu n dot)):=by
  refine XF (σ:=Finder×Spec) (zu n dot) (λ σ k=>(σ.1,zO,σ.2,join ((zu n dot).take k),(k:Int))) _ _ (λ k σ=>FindOk σ.1/\σ.2.roots.length<=path.length/\okKind σ.2/\∀ r∈σ.2.roots,inR r 0 2=true) (λ k σ x hx hlt hi=>?_) (λ σ _=>?_) (s0:=(f,⟨3,-1,path⟩)) ⟨hf,Nat.le_refl _,.inr (.inr (.inr rfl)),path_in hpath⟩ (by omega)
  ·
   obtain⟨hfo,hrl,hok,hin⟩:=hi;have hpre:=JJ hn k;have hxv:=hparts x (List.mem_of_getElem? hx);have hch:=WK hx hparts;have hcv:=Qp hn k;rw[hch] at hcv;have hst:xj d d.tree (zu n dot) (σ.1,zO,σ.2,join ((zu n dot).take k),(k:Int))=(match W0 d (zu n dot) (Sum.inr (α:=Finder×Spec×Spec)) k σ x with
     | .inl σ'=>some (.inl (σ'.1,zO,σ'.2,join ((zu n dot).take (k+1)),((k+1:Nat):Int))) | .inr b=>some (.inr b)):=by
    unfold xj W0;dsimp only;have hlp:=yn hpre;have hlx:=(xl hxv).2;have he:ZK (join ((zu n dot).take k)) x=child (join ((zu n dot).take k)) x:=by unfold ZK;rw[hpre,hxv,hcv];rfl
    rw[zK,if_pos (decide_eq_true hlt),yb,hx,obS,kind_two hok,find_k_eq hfo hd ht (by omega) hin hpre hxv hcv,obS,YN (by omega),obS,he,zV (by omega),obS,hch];cases(cmpI .neq σ.2.kind 2&&cmpI .neq σ.2.kind 3) <;> rfl
   rw[hst];cases hsk:W0 d (zu n dot) (Sum.inr (α:=Finder×Spec×Spec)) k σ x with
   |
    inl σ'=>
    refine⟨rfl,?_⟩;unfold W0 at hsk;split at hsk
    ·
     cases hsk
    ·
     injection hsk with hsk;subst hsk;have h1:=runK_ok hd hpre (s:=x) σ.2.roots [] σ.1 hfo hin λ r hr=>by cases hr
     have h2:=JK (d:=d) (p:=join ((zu n dot).take k)) (s:=x) σ.2.roots [] σ.1;exact⟨h1.1,by simp only[List.length_nil] at h2;omega,runK_kind _ _ _,h1.2⟩
   | inr b=>rfl
  ·
   unfold xj;dsimp only;rw[zK,if_neg (by simp)]
 rw[hl,obS];exact runL_N (Sum.inr (α:=Finder×Spec×Spec)) (λ σ=>Sum.inl (σ.1,zO,σ.2)) (Sum.elim (λ b12=>some (b12.1,b12.2.2)) some) some (λ _=>rfl) (λ _=>rfl) _ 0 _
theorem seen_eq(hf:FindOk f)(hd:DiskOk d)(ht:xc d.tree)(hp:path.length<=1048576)(hpath:ym path=true)(hn:zF n=true):Ya f d path n=some (qd f d path n):=by
 have hnl:=y8 hn;obtain⟨hparts,hlen⟩:=jc hn;have hsum:∀ k,ww ((zu n dot).take k)<=100:=λ k=>by
  have h1:=Zn (zu n dot) k;have h2:=YC n dot;omega
 unfold Ya;rw[show qx n (UInt8.ofNat 46)=some (zu n dot) from if_pos (by unfold mid;omega),obS];have hl:zS (λ s22=>jG d (zu n dot) s22) (f,zi,zO,(⟨(3:Int),(-1:Int),path⟩:Spec),(0:Int))=some (runL (λ k σ x=>W0 d (zu n dot) (Sum.inr (α:=Finder×Finder×Spec×Spec)) k σ x) (λ σ=>Sum.inl (σ.1,zi,zO,σ.2)) 0 (f,⟨3,-1,path⟩) (zu n dot)):=by
  refine XF (σ:=Finder×Spec) (zu n dot) (λ σ k=>(σ.1,zi,zO,σ.2,(k:Int))) _ _ (λ k σ=>FindOk σ.1/\σ.2.roots.length<=path.length/\∀ r∈σ.2.roots,inR r 0 2=true) (λ k σ x hx hlt hi=>?_) (λ σ _=>?_) (s0:=(f,⟨3,-1,path⟩)) ⟨hf,Nat.le_refl _,path_in hpath⟩ (by omega)
  ·
   obtain⟨hfo,hrl,hin⟩:=hi;have hpre:=JJ hn k;have hxv:=hparts x (List.mem_of_getElem? hx);have hch:=WK hx hparts;have hcv:=Qp hn k;rw[hch] at hcv;have hst:jG d (zu n dot) (σ.1,zi,zO,σ.2,(k:Int))=(match W0 d (zu n dot) (Sum.inr (α:=Finder×Finder×Spec×Spec)) k σ x with
     | .inl σ'=>some (.inl (σ'.1,zi,zO,σ'.2,((k+1:Nat):Int))) | .inr b=>some (.inr b)):=by
    unfold jG W0;dsimp only;rw[zK,if_pos (decide_eq_true hlt),Xp (by omega),obS,yb,hx,obS,show XL ((zu n dot).take k)=some (join ((zu n dot).take k)) from if_pos (by have:=hsum k;omega),obS,seenIn_eq hfo hd ht (by omega) hin hpre hxv hcv,obS,zV (by omega),obS];cases(cmpI .neq σ.2.kind 2&&cmpI .neq σ.2.kind 3) <;> rfl
   rw[hst];cases hsk:W0 d (zu n dot) (Sum.inr (α:=Finder×Finder×Spec×Spec)) k σ x with
   |
    inl σ'=>
    refine⟨rfl,?_⟩;unfold W0 at hsk;split at hsk
    ·
     cases hsk
    ·
     injection hsk with hsk;subst hsk;have h1:=runK_ok hd hpre (s:=x) σ.2.roots [] σ.1 hfo hin λ r hr=>by cases hr
     have h2:=JK (d:=d) (p:=join ((zu n dot).take k)) (s:=x) σ.2.roots [] σ.1;exact⟨h1.1,by simp only[List.length_nil] at h2;omega,h1.2⟩
   | inr b=>rfl
  ·
   unfold jG;dsimp only;rw[zK,if_neg (by simp)]
 rw[hl,obS];exact runL_N (Sum.inr (α:=Finder×Finder×Spec×Spec)) (λ σ=>Sum.inl (σ.1,zi,zO,σ.2)) (Sum.elim (λ b18=>some (b18.1,b18.2.2.2)) some) some (λ _=>rfl) (λ _=>rfl) _ 0 _
end
theorem cloneDirs_eq{l:List Dir}(h:yW l):qy l=some l:=by
 have hlen:=h.1;unfold qy;have hl:zS (λ s6=>wg l s6) ([],(0:Int))=some l:=by
  refine Yb (b:=l) l.length (λ k=>(l.take k,(k:Int))) (λ k hk=>?_) (by unfold wg;dsimp only;rw[zK,if_neg (by simp),List.take_length]) (by omega) rfl;obtain⟨x,hx,hm⟩:=xM hk;have hnl:=(h.2 x hm).2;have htk:(l.take k).length<=k:=by simp;omega
  unfold wg;dsimp only;rw[zK,if_pos (decide_eq_true hk),yb,hx,obS,wq (by simp;omega) (by simp;omega),obS,wq (by simp;omega) (by simp;omega),obS,zV (by omega),obS,List.take_add_one,hx];rfl
 rw[hl,obS]
theorem zbi{l:List Dir}(h:yW l):jR l=some l:=by
 have hlen:=h.1;unfold jR;have hl:zS (λ s6=>wE l s6) ([],(0:Int))=some l:=by
  refine Yb (b:=l) l.length (λ k=>(l.take k,(k:Int))) (λ k hk=>?_) (by unfold wE;dsimp only;rw[zK,if_neg (by simp),List.take_length]) (by omega) rfl;obtain⟨x,hx,hm⟩:=xM hk;have hnl:=(h.2 x hm).2;have htk:(l.take k).length<=k:=by simp;omega
  unfold wE;dsimp only;rw[zK,if_pos (decide_eq_true hk),yb,hx,obS,wq (by simp;omega) (by simp;omega),obS,wq (by simp;omega) (by simp;omega),obS,zV (by omega),obS,List.take_add_one,hx];rfl
 rw[hl,obS]
theorem DirsOk.smd{l:List Dir}(h:DirsOk l):yW l:=⟨h.sm,λ x hx=>by
 obtain⟨_,h2,_,h4⟩:=h.2.1 x hx;have:=yn h2;exact⟨by omega,by omega⟩⟩
theorem Jz{f:Finder}(h:yW f.dirs):wB f=some f:=by
 unfold wB;rw[cloneDirs_eq h,obS]
theorem J8{f:Finder}(h:yW f.dirs):wW f=some f:=by
 unfold wW;rw[zbi h,obS]
theorem zb7{d:Disk}{list:List Str}:∀ (xs:List Str) (k:Nat) (f:Finder) (out:Spec),(yt d list k f out xs).2.roots.length<=out.roots.length
 | [],_,_,_=>Nat.le_refl _
 |
  x::xs,k,f,out=>by
  unfold yt;split
  ·
   exact Nat.zero_le _
  ·
   have h2:=JK (d:=d) (p:=join (list.take k)) (s:=x) out.roots [] f;have h3:=zb7 (d:=d) (list:=list) xs (k+1) (zT d (join (list.take k)) x f [] out.roots).1 (zT d (join (list.take k)) x f [] out.roots).2;simp only[List.length_nil] at h2;omega
theorem Xq(f:Finder)(d:Disk)(path:List Int)(n:Str):(qd f d path n).2.roots.length<=path.length:=zb7 _ _ _ _
theorem nodup_le{α:Type}[DecidableEq α]:∀ {l m:List α},l.Nodup->(∀ x∈l,x∈m)->l.length<=m.length
 | [],_,_,_=>Nat.zero_le _
 |
  x::l,m,hn,hs=>by
  rw[List.nodup_cons] at hn;have hx:=hs x (List.mem_cons_self ..);have h1:=nodup_le (l:=l) (m:=m.erase x) hn.2 λ y hy=>(List.mem_erase_of_ne (by intro e;subst e;exact hn.1 hy)).2 (hs y (List.mem_cons_of_mem _ hy))
  have h2:=List.length_erase_of_mem hx;have h3:=List.length_pos_of_mem hx;rw[List.length_cons];omega
theorem X2{path:List Int}(h:ym path=true):path.length<=3:=by
 have h1:=path_in h;have hnd:path.Nodup:=by
  refine List.pairwise_iff_getElem.2 λ i j hi hj hij=>?_
  unfold ym XY at h;rw[List.all_eq_true] at h;have:=h j (List.mem_range.2 hj);unfold Wy at this;rw[List.getElem?_eq_getElem hj] at this;simp only[Bool.not_eq_true',Bool.or_eq_false_iff] at this;have h3:=this.2;unfold intAt at h3;rw[Yo,List.any_eq_false] at h3;intro e;refine h3 path[j] ?_ (by simp);rw[← e];exact List.mem_take_iff_getElem.2 ⟨i,by omega,rfl⟩
 have hsub:∀ x∈path,x∈([0,1,2]:List Int):=λ x hx=>by
  have:=Jy (h1 x hx);have:x=0\/x=1\/x=2:=by omega
  rcases this with rfl | rfl | rfl <;> simp
 have:=nodup_le hnd hsub;simpa using this
section
variable{f:Finder}{d:Disk}{path:List Int}{n:Str}
theorem cached_ok(h:(((xN f&&wZ d)&&ym path)&&zF n)=true):FindOk f/\DiskOk d/\ym path=true/\zF n=true:=by
 rw[Bool.and_eq_true,Bool.and_eq_true,Bool.and_eq_true] at h;exact⟨xE.1 h.1.1.1,YO h.1.1.2,h.1.2,h.2⟩
theorem X3(hf:yW f.dirs)(ht:xc d.tree)(hd:yW d.dirs)(hp:path.length<=1048576)(hn:sho n):yO f d path n=some (ql f d path n):=by
 unfold yO ql;rw[qI hf,obS,Yp ht hd,zU,obS,WI hp,zU,obS,qb hn,zU,obS];cases h1:xN f with
 | false=>rfl
 |
  true=>
  cases h2:wZ d with
  | false=>rfl
  |
   true=>
   cases h3:ym path with
   | false=>rfl
   |
    true=>
    cases h4:zF n with
    | false=>rfl
    |
     true=>
     have ho:=xE.1 h1;have hdo:=YO h2;have hrl:=Xq f d path n;have hok:=zak ho hdo h3 h4;rw[if_neg (by decide),if_pos (by rfl),Jz hf,obS,findName_k_eq ho hdo ht hp h3 h4,obS,wq (by simp;omega) (by simp;omega),obS,Jz hok.1.smd,obS];rfl
theorem Qu(hf:yW f.dirs)(ht:xc d.tree)(hd:yW d.dirs)(hp:path.length<=1048576)(hn:sho n):xw f d path n=some (ql f d path n):=by
 unfold xw ql;rw[Jw hf,obS,Yq ht hd,zU,obS,show ZF path=some (ym path) from if_pos trivial,zU,obS,show ZE n=some (zF n) from if_pos hn.mid,zU,obS];cases h1:xN f with
 | false=>rfl
 |
  true=>
  cases h2:wZ d with
  | false=>rfl
  |
   true=>
   cases h3:ym path with
   | false=>rfl
   |
    true=>
    cases h4:zF n with
    | false=>rfl
    |
     true=>
     have ho:=xE.1 h1;have hdo:=YO h2;have hrl:=Xq f d path n;rw[if_neg (by decide),if_pos (by rfl),J8 hf,obS,seen_eq ho hdo ht hp h3 h4,obS,wq (by simp;omega) (by simp;omega),obS];rfl
end
end Go.Proofs.YtdoidiipacdbpaaGreatDoor
