import Derived.Test.YtandbaloaenciaaGreatDoorRI
import Derived.Test.YtandbaloaenciaaGreatDoorRP
namespace Go.Proofs.YtandbaloaenciaaGreatDoor
variable{d e x:Disk}{f:File}{a:GAct}{c i r st ticks:Int}{l:List Dir}{path roots:List Int}{b:List Stmt}{o:List Str}{j k:Nat}{s:Stmt}{p:Str}{t:Tree}
def Yn(l:List Dir):Prop:=l.length<=1048576/\∀ d∈l,d.pkg.l.length<=1048576/\d.names.length<=1048576
variable{γ:Type}{ys:List γ}
theorem xy(a b c:Int):z7 a b c=some (inR a b c):=rfl
def YS(r:Int)(p:Str)(d:Dir):Bool:=cmpI .eql d.root r&&decide (d.pkg=p)
theorem atDir_self(d:Dir):YS d.root d.pkg d=true:=by simp[YS,cmpI]
theorem dirAt_eq(h:l.length<=1048576):Yt l r p=some (xm (YS r p) l):=by
 unfold Yt xx;have hl:zE (λ s4=>zV l (λ a0=>Yd a0 r p) s4) 0=some (match l.findIdx? (YS r p) with | some i=>(Sum.inr (i:Int):Unit⊕Int) | none=>Sum.inl ()):=by
  refine Wo l (YS r p) (λ i=>Sum.inr i) _ (λ k x hx hlt=>?_) ?_ (by omega) Z
  ·unfold zV;rw[zC,Ke (decide_eq_true hlt),zH,hx,Kd];show Option.bind (some (YS r p x)) _=_;rw[Kd,zG (by omega)];cases YS r p x <;> rfl
  ·unfold zV;rw[zC,Kf (by simp)]
 rw[hl];unfold xm;cases l.findIdx? (YS r p) <;> rfl
theorem zcZ(h:l.length<=1048576):Yu l r p=some (xm (YS r p) l):=by
 unfold Yu;have hl:zE (λ s4=>j5 l r p s4) 0=some (match l.findIdx? (YS r p) with | some i=>(Sum.inr (i:Int):Unit⊕Int) | none=>Sum.inl ()):=by
  refine Wo l (YS r p) (λ i=>Sum.inr i) _ (λ k x hx hlt=>?_) ?_ (by omega) Z
  ·unfold j5;rw[zC,Ke (decide_eq_true hlt),zH,hx,Kd,zY,Kd,zG (by omega)];unfold YS;cases cmpI .eql x.root r with
   | false=>rfl
   | true=>simp only[beq_self_eq_true,if_true,Bool.true_and];cases decide (x.pkg=p) <;> rfl
  ·unfold j5;rw[zC,Kf (by simp)]
 rw[hl];exact idx_join _ _
def XC(S n:Int)(l:List Dir)(k:Nat):Bool:=match l[k]? with
 | some d=>!((((!inR d.root 0 2||!zi d.pkg)||!inR d.stamp 0 S)||cmpI .gtr (d.names.length:Int) n)||(l.take k).any (YS d.root d.pkg))
 | none=>true
def ZB(S n:Int)(l:List Dir):Bool:=(List.range l.length).all (XC S n l)&&cmpI .leq (l.length:Int) 20
theorem dirsOk_eq{S n:Int}(h:Yn l):YM l S n=some (ZB S n l):=by
 have hlen:=h.1;unfold YM;have hl:zE (λ s4=>jE l S n s4) 0=some (if(List.range l.length).any (λ k=>!XC S n l k)=true then .inr false else .inl ()):=by
  refine qu (List.range l.length) _ _ _ (λ k x hx hlt=>?_) ?_ (by rw[List.length_range];omega) Z
  ·rw[List.length_range] at hlt;rw[List.getElem?_range hlt] at hx;injection hx with hx;subst hx;obtain⟨d,hd,hm⟩:=Zq hlt;have hpk:sho d.pkg:=by have:=(h.2 d hm).1;unfold sho;omega
   have htl:(l.take k).length<=1048576:=by simp;omega
   have ht:XC S n l k=!((((!inR d.root 0 2||!zi d.pkg)||!inR d.stamp 0 S)||cmpI .gtr (d.names.length:Int) n)||(l.take k).any (YS d.root d.pkg)):=by unfold XC;rw[hd]
   unfold jE;rw[zC,Ke (decide_eq_true hlt),zH,hd,Kd,ZV,Kd,Yx hpk,ZV,WP (by omega),zG (by omega),ht];cases inR d.root 0 2 with
   | false=>rfl
   |true=>
    cases zi d.pkg with
    | false=>rfl
    |true=>
     cases inR d.stamp 0 S with
     | false=>rfl
     |true=>
      cases cmpI .gtr (d.names.length:Int) n with
      | true=>rfl
      |false=>simp only[Bool.not_true,beq_self_eq_true,Bool.or_self,Bool.false_or,qt,Kd];rw[dirAt_eq htl,Kd,J6];cases(l.take k).any (YS d.root d.pkg) <;> rfl
  ·unfold jE;rw[List.length_range,zC,Kf (by simp)]
 rw[hl,Kd,Wa];unfold ZB;cases(List.range l.length).all (XC S n l) <;> rfl
theorem zcu(h:Yn l):Zk l=some (ZB 200 12 l):=by
 have hlen:=h.1;unfold Zk;have hl:zE (λ s4=>wt l s4) 0=some (if(List.range l.length).any (λ k=>!XC 200 12 l k)=true then .inr false else .inl ()):=by
  refine qu (List.range l.length) _ _ _ (λ k x hx hlt=>?_) ?_ (by rw[List.length_range];omega) Z
  ·rw[List.length_range] at hlt;rw[List.getElem?_range hlt] at hx;injection hx with hx;subst hx;obtain⟨d,hd,hm⟩:=Zq hlt;have hpk:yJ d.pkg=some (zi d.pkg):=Ke (by have:=(h.2 d hm).1;unfold mid;omega);have ht:XC 200 12 l k=!((((!inR d.root 0 2||!zi d.pkg)||!inR d.stamp 0 200)||cmpI .gtr (d.names.length:Int) 12)||(l.take k).any (YS d.root d.pkg)):=by unfold XC;rw[hd]
   unfold wt;rw[zC,Ke (decide_eq_true hlt),zH,hd,Kd,xy,Kd,zG (by omega),ht];cases inR d.root 0 2 with
   | false=>rfl
   |true=>
    rw[show((!true) == false)=true from Z,qt,Kd,qt,hpk,Kd];cases zi d.pkg with
    | false=>rfl
    |true=>
     rw[show(((!true)||(!true)) == false)=true from Z,qt,Kd,qt,xy,Kd];cases inR d.stamp 0 200 with
     | false=>rfl
     |true=>
      rw[show((((!true)||(!true))||(!true)) == false)=true from Z,qt,Kd,Kd,qt,zcZ hlen,Kd,idxOf_lss hd (atDir_self d)];cases(l.take k).any (YS d.root d.pkg) with
      | true=>cases cmpI .gtr (d.names.length:Int) 12 <;> rfl
      |false=>rw[show(((((!true)||(!true))||(!true))||false) == false)=true from Z,qt,Kd];cases cmpI .gtr (d.names.length:Int) 12 <;> rfl
  ·unfold wt;rw[List.length_range,zC,Kf (by simp)]
 rw[hl,Kd,Wa];unfold ZB;cases(List.range l.length).all (XC 200 12 l) <;> rfl
def XD(x:Disk):Bool:=(zI x.tree&&inR x.clock 0 200)&&ZB x.clock 0 x.dirs
theorem WL(ht:jZ x.tree)(h:Yn x.dirs):xY x=some (XD x):=by
 unfold xY XD;rw[Yy ht,Kd,ZV,dirsOk_eq h,zY,Kd,zY,Kd];cases zI x.tree with
 | false=>rfl
 | true=>cases inR x.clock 0 200 <;> cases ZB x.clock 0 x.dirs <;> rfl
def plain(c:Int)(d:Dir):Bool:=cmpI .gtr d.stamp c||cmpI .gtr (d.names.length:Int) 0
theorem Wb(hc:inR c 0 200=true)(l:List Dir):ZB c 0 l=(!l.any (plain c)&&ZB 200 12 l):=by
 unfold inR at hc;rw[Bool.and_eq_true] at hc;have h1:0<=c:=oD hc.1;have h2:c<=200:=oD hc.2;unfold ZB;rw[← Bool.and_assoc]
 congr 1
 rw[Bool.eq_iff_iff,List.all_eq_true,Bool.and_eq_true,List.all_eq_true,Bool.not_eq_true',List.any_eq_false];have key:∀ (k:Nat) (d:Dir),l[k]?=some d->(XC c 0 l k=true ↔ plain c d=false/\XC 200 12 l k=true):=by
  intro k d hd;unfold XC plain inR;rw[hd];simp only[cmpI,Bool.not_eq_true',Bool.or_eq_false_iff,Bool.not_eq_false',Bool.and_eq_true,decide_eq_true_eq,decide_eq_false_iff_not];constructor
  ·rintro ⟨⟨⟨⟨⟨a1,a2⟩,a3⟩,a4,a5⟩,a6⟩,a7⟩
   and_intros <;> first | assumption | omega
  ·rintro ⟨⟨b1,b2⟩,⟨⟨⟨⟨a1,a2⟩,a3⟩,a4,a5⟩,a6⟩,a7⟩
   and_intros <;> first | assumption | omega
 constructor
 ·intro h;refine⟨λ d hd=>?_,λ k hk=>?_⟩
  ·obtain⟨k,hk⟩:=List.getElem?_of_mem hd;rw[((key k d hk).1 (h k (List.mem_range.2 (zK hk)))).1]
   decide
  ·obtain⟨d,hd,_⟩:=Zq (List.mem_range.1 hk);exact((key k d hd).1 (h k hk)).2
 ·rintro ⟨ha,hb⟩ k hk
  obtain⟨d,hd,hm⟩:=Zq (List.mem_range.1 hk);exact(key k d hd).2 ⟨by simpa using ha d hm,hb k hk⟩
theorem YA(ht:jZ x.tree)(h:Yn x.dirs):wN x=some (XD x):=by
 have hlen:=h.1;unfold wN;have hl:zE (λ s4=>wu x s4) 0=some (if x.dirs.any (plain x.clock)=true then(Sum.inr false:Unit⊕Bool) else .inl ()):=by
  refine qu x.dirs (plain x.clock) _ _ (λ k d hd hlt=>?_) ?_ (by omega) Z
  ·unfold wu plain;rw[zC,Ke (decide_eq_true hlt),zH,hd,Kd,zY,Kd,zG (by omega)];cases cmpI .gtr d.stamp x.clock with
   | true=>rfl
   | false=>simp only[beq_self_eq_true,if_true,Bool.false_or];cases cmpI .gtr (d.names.length:Int) 0 <;> rfl
  ·unfold wu;rw[zC,Kf (by simp)]
 have e1:zX x.tree=some (zI x.tree):=Ke ht;rw[hl,Kd];unfold XD;cases hc:inR x.clock 0 200 with
 |true=>
  rw[Wb hc];cases x.dirs.any (plain x.clock) with
  | true=>cases zI x.tree <;> rfl
  |false=>
   rw[Kf (by decide),Sum.elim_inl,e1,Kd,xy,hc,zcu h,zY,Kd,zY,Kd];cases zI x.tree with
   | false=>rfl
   | true=>cases ZB 200 12 x.dirs <;> rfl
 |false=>
  cases x.dirs.any (plain x.clock) with
  | true=>cases zI x.tree <;> rfl
  |false=>rw[Kf (by decide),Sum.elim_inl,e1,Kd,xy,hc,zcu h,zY,Kd,zY,Kd];cases zI x.tree <;> rfl
def dirK(l:List Dir)(r:Int)(p:Str):Option Nat:=l.findIdx? (YS r p)
theorem zc0{d:Dir}:YS r p d=true ↔ d.root=r/\d.pkg=p:=by simp[YS,cmpI]
theorem dirK_some(h:dirK l r p=some k):k<l.length/\l[k]?=some (l.getD k default)/\(l.getD k default).root=r/\(l.getD k default).pkg=p:=by
 obtain⟨hk,h1,_⟩:=List.findIdx?_eq_some_iff_getElem.1 h;have e:l.getD k default=l[k]:=by simp[List.getD_eq_getElem?_getD,List.getElem?_eq_getElem hk]
 rw[e];exact⟨hk,List.getElem?_eq_getElem hk,zc0.1 h1⟩
def DirsOk(l:List Dir):Prop:=l.length<=20/\(∀ x∈l,inR x.root 0 2=true/\zi x.pkg=true/\inR x.stamp 0 200=true/\x.names.length<=12)/\(∀ (i j:Nat) (x y:Dir),l[i]?=some x->l[j]?=some y->i<j->¬ (x.root=y.root/\x.pkg=y.pkg))
theorem dirsFit_iff:ZB 200 12 l=true ↔ DirsOk l:=by
 have key:∀ (k:Nat) (d:Dir),l[k]?=some d->(XC 200 12 l k=true ↔ (inR d.root 0 2=true/\zi d.pkg=true/\inR d.stamp 0 200=true/\d.names.length<=12)/\∀ (i:Nat) (x:Dir),l[i]?=some x->i<k->¬ (x.root=d.root/\x.pkg=d.pkg)):=by
  intro k d hd;unfold XC;rw[hd];simp only[Bool.not_eq_true',Bool.or_eq_false_iff,Bool.not_eq_false',List.any_eq_false];constructor
  ·rintro ⟨⟨⟨⟨a1,a2⟩,a3⟩,a4⟩,a5⟩
   refine⟨⟨a1,a2,a3,?_⟩,λ i x hx hi he=>?_⟩
   ·simp[cmpI] at a4;omega
   ·refine a5 x ?_ (zc0.2 he);have:(l.take k)[i]?=some x:=by rw[List.getElem?_take,Ke hi,hx]
    exact List.mem_of_getElem? this
  ·rintro ⟨⟨a1,a2,a3,a4⟩,a5⟩
   refine⟨⟨⟨⟨a1,a2⟩,a3⟩,by simp[cmpI];omega⟩,λ x hx he=>?_⟩;obtain⟨i,hi⟩:=List.getElem?_of_mem hx;have hik:i<k:=by have:=zK hi;simp at this;omega
   rw[List.getElem?_take,Ke hik] at hi;exact a5 i x hi hik (zc0.1 he)
 unfold ZB DirsOk;rw[Bool.and_eq_true,List.all_eq_true];constructor
 ·rintro ⟨h1,h2⟩
  refine⟨by simp[cmpI] at h2;omega,λ x hx=>?_,λ i j x y hx hy hij=>?_⟩
  ·obtain⟨k,hk⟩:=List.getElem?_of_mem hx;exact((key k x hk).1 (h1 k (List.mem_range.2 (zK hk)))).1
  ·exact((key j y hy).1 (h1 j (List.mem_range.2 (zK hy)))).2 i x hx hij
 ·rintro ⟨h1,h2,h3⟩
  refine⟨λ k hk=>?_,by simp[cmpI];omega⟩;obtain⟨d,hd,hm⟩:=Zq (List.mem_range.1 hk);exact(key k d hd).2 ⟨h2 d hm,λ i x hx hi=>h3 i k x d hx hd hi⟩
def FindOk(f:Finder):Prop:=DirsOk f.dirs/\inR f.fills 0 1000=true/\inR f.hits 0 1000=true
structure DiskOk(d:Disk):Prop where
 tree:zI d.tree=true
 clock:0<=d.clock/\d.clock<=200
 dirs:ZB d.clock 0 d.dirs=true
theorem diskFit_ok(h:XD d=true):DiskOk d:=by
 unfold XD at h;rw[Bool.and_eq_true,Bool.and_eq_true] at h;have:=h.1.2;unfold inR at this;rw[Bool.and_eq_true] at this;exact⟨h.1.1,⟨oD this.1,oD this.2⟩,h.2⟩
theorem DiskOk.ok(h:DiskOk d):DirsOk d.dirs:=by
 have h1:=h.dirs;rw[Wb (by unfold inR;simp[cmpI];exact h.clock),Bool.and_eq_true] at h1;exact dirsFit_iff.1 h1.2
open Go.RowKit
theorem dirK_idx(l:List Dir)(r:Int)(p:Str):xm (YS r p) l=match dirK l r p with | some i=>((i:Nat):Int) | none=>-1:=rfl
theorem DirsOk.sm(h:DirsOk l):l.length<=1048576:=by have:=h.1;omega
theorem FindOk.sm{f:Finder}(h:FindOk f):f.dirs.length<=1048576:=h.1.sm
theorem DiskOk.sm{d:Disk}(h:DiskOk d):d.dirs.length<=1048576:=h.ok.sm
theorem inR_ge{n a b:Int}(h:inR n a b=true):a<=n/\n<=b:=by
 unfold inR at h;rw[Bool.and_eq_true] at h;exact⟨oD h.1,oD h.2⟩
section
variable{f:Finder}
end
section
variable{f:Finder}{s:Str}
end
section
variable{f:Finder}{n:Str}
end
theorem zcv(h:Yn l):Zf l=some l:=by
 have hlen:=h.1;unfold Zf;have hl:zE (λ s6=>wo l s6) ([],(0:Int))=some l:=by
  refine WQ (b:=l) l.length (λ k=>(l.take k,(k:Int))) (λ k hk=>?_) (by unfold wo;dsimp only;rw[zC,Kf (by simp),List.take_length]) (by omega) Z;obtain⟨x,hx,hm⟩:=Zq hk;have hnl:=(h.2 x hm).2;have htk:(l.take k).length<=k:=by simp;omega
  unfold wo;dsimp only;rw[zC,Ke (decide_eq_true hk),zH,hx,Kd,yu (by simp;omega) (by simp;omega),Kd,yu (by simp;omega) (by simp;omega),Kd,zG (by omega),Kd,List.take_add_one,hx];rfl
 rw[hl,Kd]
theorem Jx(h:Yn l):ZG l=some l:=by
 have hlen:=h.1;unfold ZG;have hl:zE (λ s6=>wP l s6) ([],(0:Int))=some l:=by
  refine WQ (b:=l) l.length (λ k=>(l.take k,(k:Int))) (λ k hk=>?_) (by unfold wP;dsimp only;rw[zC,Kf (by simp),List.take_length]) (by omega) Z;obtain⟨x,hx,hm⟩:=Zq hk;have hnl:=(h.2 x hm).2;have htk:(l.take k).length<=k:=by simp;omega
  unfold wP;dsimp only;rw[zC,Ke (decide_eq_true hk),zH,hx,Kd,yu (by simp;omega) (by simp;omega),Kd,yu (by simp;omega) (by simp;omega),Kd,zG (by omega),Kd,List.take_add_one,hx];rfl
 rw[hl,Kd]
theorem DirsOk.smd(h:DirsOk l):Yn l:=⟨h.sm,λ x hx=>by
 obtain⟨_,h2,_,h4⟩:=h.2.1 x hx;have:=yf h2;exact⟨by omega,by omega⟩⟩
section
variable{f:Finder}{n:Str}
end
theorem validStmt_sm(h:zP s=true):smStmt s:=by
 have e0:∀ x:Str,decide (x=(⟨[]⟩:Str))=true->x.l.length<=3:=λ x h=>by rw[oD h];exact Nat.zero_le _
 have key:s.module.l.length<=11/\s.name.l.length<=3:=by
  unfold zP at h;split at h
  ·simp only[Bool.and_eq_true] at h;exact⟨yF h.1.1.1,e0 _ h.1.2⟩
  ·split at h
   ·simp only[Bool.and_eq_true] at h;exact⟨yf h.1.1.1.1,(qF h.1.2).2⟩
   ·split at h
    ·simp only[Bool.and_eq_true] at h;exact⟨yF h.1.1.1,e0 _ h.1.2⟩
    ·split at h
     ·simp only[Bool.and_eq_true] at h;exact⟨Nat.le_trans (e0 _ h.1.1.1) (by decide),(qF h.1.2).2⟩
     ·split at h
      ·simp only[Bool.and_eq_true] at h;exact⟨Nat.le_trans (e0 _ h.1.1.1) (by decide),(qF h.1.2).2⟩
      ·split at h
       ·rw[oD h];exact⟨Nat.zero_le _,Nat.zero_le _⟩
       ·cases h
 exact⟨by omega,by omega⟩
theorem zcw(h:yy f=true):smFile f:=by
 have h1:=yf (YR h);unfold yy at h;split at h
 ·cases h
 ·rename_i hc;have hc:(!inR f.root 0 2||!inR f.stamp 0 99||!zi f.pkg||!yc f.body)=false:=by simpa using hc
  simp only[Bool.or_eq_false_iff,Bool.not_eq_false'] at hc;have hb:=hc.2;unfold yc at hb;rw[Bool.and_eq_true,List.all_eq_true] at hb;have hbl:f.body.length<=8:=by have:=hb.2;simp[cmpI] at this;omega
  have hn:f.name.l.length<=3:=by
   split at h
   ·rw[Bool.and_eq_true] at h;rw[oD h.2];exact Nat.zero_le _
   ·rw[Bool.and_eq_true] at h;exact(qF h.1).2
  exact⟨by omega,by omega,by omega,λ s hs=>validStmt_sm (hb.1 s hs)⟩
theorem wV(h:zI t=true):jZ t:=⟨by have:=JM h;omega,λ _ hf=>zcw (Yi h hf)⟩
theorem Wr(h:f.body.length<=1048576):je f=some f:=by
 unfold je;rw[yu (by simp;omega) (by simp;omega),Kd];rfl
theorem Ws(h:jZ t):j6 t=some t:=by
 have hlen:=h.1;unfold j6;have hl:zE (λ s15=>wO t s15) ((⟨[]⟩:Tree),(0:Int))=some t:=by
  refine WQ (b:=t) t.files.length (λ k=>((⟨t.files.take k⟩:Tree),(k:Int))) (λ k hk=>?_) (by unfold wO;dsimp only;rw[zC,Kf (by simp),List.take_length]) (by omega) Z;obtain⟨x,hx,hm⟩:=Zq hk;have hb:=(h.2 x hm).2.2.1;have htk:(t.files.take k).length<=k:=by simp;omega
  unfold wO;dsimp only;rw[zC,Ke (decide_eq_true hk),zH,hx,Kd,Wr hb,Kd,yu (by simp;omega) (by simp;omega),Kd,zG (by omega),Kd,List.take_add_one,hx];rfl
 rw[hl,Kd]
theorem zd1(h:jZ t)(hf:smFile f)(hl:t.files.length<=1000):∃ t' b,jR t f=some (t',b)/\(b=true->zI t'=true):=by
 have h2:jZ ⟨t.files++[f]⟩:=⟨by simp;omega,λ x hx=>(List.mem_append.1 hx).elim (h.2 x) λ hx=>by rw[List.mem_singleton.1 hx];exact hf⟩;unfold jR;rw[Ws h,Kd,Wr hf.2.2.1,Kd,yu (by simp;omega) (by simp;omega),Kd,show zX t=some (zI t) from Ke h,Kd,show zX ⟨t.files++[f]⟩=some (zI ⟨t.files++[f]⟩) from Ke h2,zY,Kd];cases h3:zI t with
 | false=>exact⟨_,_,Z,λ h=>by cases h⟩
 |true=>
  cases h4:zI ⟨t.files++[f]⟩ with
  | false=>exact⟨_,_,Z,λ h=>by cases h⟩
  | true=>exact⟨_,_,Z,λ _=>h4⟩
theorem cut_sub{i n:Nat}{x:γ}(h:x∈(cutL ys i j).take n):x∈ys:=by
 have h:=List.mem_of_mem_take h;unfold cutL at h;rcases List.mem_append.1 h with h | h
 ·rcases List.mem_append.1 h with h | h
  ·exact List.mem_of_mem_take h
  ·exact List.mem_of_mem_drop h
 ·exact List.mem_of_mem_drop h
theorem zbb(h:jZ t):∃ t' b,wi t i=some (t',b)/\(b=true->jZ t'/\0<=i/\i<t.files.length):=by
 have hlen:=h.1;unfold wi;rw[show zX t=some (zI t) from Ke h,Kd,js (by omega) (by omega),zY,Kd,xy,zY,Kd];cases h3:zI t with
 | false=>exact⟨_,_,Z,λ h=>by cases h⟩
 |true=>
  show ∃ t' b,(if((!true)||(!inR i 0 ((t.files.length:Int) - 1)))=true then _ else _)=some (t',b)/\_;cases h4:inR i 0 ((t.files.length:Int) - 1) with
  | false=>exact⟨_,_,Z,λ h=>by cases h⟩
  |true=>
   obtain⟨h5,h6⟩:=inR_ge h4;obtain⟨n,rfl⟩:=Int.eq_ofNat_of_zero_le h5;have hsl:JS t.files ((n+1:Nat):Int)=some (t.files.drop (n+1)):=by unfold JS;rw[Ke ⟨by omega,by omega⟩];rfl
   rw[Kf (by decide),Ws h,Kd,WP (by omega),Kd,zG (by omega),Kd,hsl,Kd];refine⟨_,_,Z,λ _=>⟨⟨?_,λ x hx=>h.2 x (cut_sub hx)⟩,h5,by omega⟩⟩;show((cutL t.files _ _).take _).length<=_;rw[List.length_take,cutL_len (by simp) (by simp;omega)];omega
theorem zd2{x:Dir}(h:Yn l)(hl:l.length<=1000)(h1:x.pkg.l.length<=1048576)(h2:x.names.length<=1048576):Yn (l++[x]):=
 ⟨by simp;omega,λ y hy=>(List.mem_append.1 hy).elim (h.2 y) λ hy=>by rw[List.mem_singleton.1 hy];exact⟨h1,h2⟩⟩
theorem zd3(h:Yn d.dirs)(hl:d.dirs.length<=900)(hp:p.l.length<=16):∃ l,Zl d r p=some ⟨d.tree,d.clock,l⟩/\Yn l:=by
 obtain⟨o,ho,h1,h2⟩:∃ o:List Str,(if(decide (p≠(⟨[]⟩:Str)))=true then((qg p).bind λ v13=>(appO 16 [(⟨[]⟩:Str)] v13).bind λ v20=>some v20) else(some [(⟨[]⟩:Str)]))=some o/\o.length<=20/\∀ x∈o,x.l.length<=20:=by
  have ha:=above_len p;have hs:=zcS p dot;have h2:∀ x∈((⟨[]⟩:Str)::Jp p),x.l.length<=20:=λ x hx=>by
   rcases List.mem_cons.1 hx with rfl | hx
   ·exact Nat.zero_le _
   ·have:=above_mem hx;omega
  split
  ·rw[show qg p=some (Jp p) from Ke (by unfold mid;omega),Kd,yu (by simp;omega) (by simp;omega),Kd];exact⟨_,Z,by simp;omega,h2⟩
  ·exact⟨_,Z,by simp,λ x hx=>by rw[List.mem_singleton.1 hx];exact Nat.zero_le _⟩
 unfold Zl;rw[ho,Kd];have key:∀ m k (e:Disk),k+m=o.length->e.tree=d.tree->e.clock=d.clock->Yn e.dirs->e.dirs.length<=900+k->∃ l,wy (λ s33=>yk r o s33) (m+1) (e,(k:Int))=some ⟨d.tree,d.clock,l⟩/\Yn l:=by
  intro m
  induction m with
  |zero=>intro k e hk h3 h4 h5 _;refine⟨e.dirs,yq ?_,h5⟩;unfold yk;dsimp only;rw[zC,Kf (by simp;omega),← h3,← h4]
  |succ m ih=>
   intro k e hk h3 h4 h5 h6;have hlt:k<o.length:=by omega
   obtain⟨x,hx,hm⟩:=Zq hlt;have hxl:=h2 x hm
   suffices hs:∃ e',yk r o (e,(k:Int))=some (.inl (e',((k+1:Nat):Int)))/\e'.tree=d.tree/\e'.clock=d.clock/\Yn e'.dirs/\e'.dirs.length<=900+(k+1) by
    obtain⟨e',s1,s2,s3,s4,s5⟩:=hs;rw[x8 s1];exact ih (k+1) e' (by omega) s2 s3 s4 s5
   unfold yk;dsimp only;rw[zC,Ke (decide_eq_true hlt),zH,hx,Kd,zcZ h5.1,Kd,Kd,zG (by omega),dirK_idx];cases hk2:dirK e.dirs r x with
   |none=>dsimp only;rw[Ke (by decide),yu (by simp;omega) (by simp;omega),Kd];refine⟨{ e with dirs:=e.dirs++[⟨r,x,e.clock,[]⟩] },Z,h3,h4,zd2 h5 (by omega) (by show x.l.length<=_;omega) (Nat.zero_le _),?_⟩;simp only[List.length_append,List.length_singleton];omega
   |some j=>
    obtain⟨g1,g2,_,_⟩:=dirK_some hk2;have gm:=List.mem_of_getElem? g2;dsimp only;rw[Kf (by simp[cmpI]),zH,g2,Kd];refine⟨{ e with dirs:=e.dirs.set j { (e.dirs.getD j default) with stamp:=e.clock } },Z,h3,h4,⟨by rw[List.length_set];exact h5.1,λ y hy=>?_⟩,by rw[List.length_set];omega⟩;rcases List.mem_or_eq_of_mem_set hy with hy | rfl
    ·exact h5.2 y hy
    ·have:=h5.2 (e.dirs.getD j default) gm;exact this
 obtain⟨l,e1,e2⟩:=key o.length 0 d (by omega) Z Z h (by omega);have hl2:zE (λ s33=>yk r o s33) (d,(0:Int))=some ⟨d.tree,d.clock,l⟩:=jk e1 (by omega);rw[hl2];exact⟨l,Z,e2⟩
theorem DiskOk.fit(h:DiskOk d):XD d=true:=by
 have h1:inR d.clock 0 200=true:=by unfold inR;simp[cmpI];exact h.clock
 unfold XD;rw[h.tree,h1,h.dirs];rfl
def zbz:Disk:=⟨⟨[]⟩,0,[]⟩
theorem zc1:DiskOk zbz:=⟨by decide,by decide,by decide⟩
theorem loop_same{S β:Type}{f g:S->Option (S⊕β)}(P:S->Prop)(h:∀ s,P s->f s=g s)(hs:∀ s s',P s->f s=some (.inl s')->P s'){s:S}(h0:P s):zE f s=zE g s:=by
 have key:∀ n s,P s->wy f n s=wy g n s:=by
  intro n
  induction n with
  | zero=>intro s _;rfl
  |succ n ih=>
   intro s hp;have e:=h s hp;cases hf:f s with
   | none=>rw[hf] at e;simp only[wy,hf,← e]
   |some z=>
    rw[hf] at e;cases z with
    | inl s'=>rw[x8 hf,x8 e.symm];exact ih s' (hs s s' hp hf)
    | inr r=>rw[yq hf,yq e.symm]
 unfold zE;simp only[key _ _ h0]
theorem zcx(h:f.body.length<=1048576):jG f=some f:=by
 unfold jG jF;rw[yu (by simp;omega) (by simp;omega),Kd,Kd];rfl
theorem Qz(h:jZ t):jH t=some t:=by
 have hlen:=h.1;unfold jH;have hl:zE (λ s17=>wn t s17) ((⟨[]⟩:Tree),(0:Int))=some t:=by
  refine WQ (b:=t) t.files.length (λ k=>((⟨t.files.take k⟩:Tree),(k:Int))) (λ k hk=>?_) (by unfold wn;dsimp only;rw[zC,Kf (by simp),List.take_length]) (by omega) Z;obtain⟨x,hx,hm⟩:=Zq hk;have hb:=(h.2 x hm).2.2.1;have htk:(t.files.take k).length<=k:=by simp;omega
  unfold wn;dsimp only;rw[zC,Ke (decide_eq_true hk),zH,hx,Kd,zcx hb,Kd,yu (by simp;omega) (by simp;omega),Kd,zG (by omega),Kd,List.take_add_one,hx];rfl
 rw[hl,Kd]
theorem AddFile_same(h:jZ t)(hf:smFile f)(hl:t.files.length<=1000):Ye t f=jR t f:=by
 have h2:jZ ⟨t.files++[f]⟩:=⟨by simp;omega,λ x hx=>(List.mem_append.1 hx).elim (h.2 x) λ hx=>by rw[List.mem_singleton.1 hx];exact hf⟩;unfold Ye jR;rw[Ws h,Qz h,Kd,Kd,Wr hf.2.2.1,zcx hf.2.2.1,Kd,Kd,yu (by simp;omega) (by simp;omega),Kd,Kd,Yy h,show zX t=some (zI t) from Ke h,Yy h2,show zX ⟨t.files++[f]⟩=some (zI ⟨t.files++[f]⟩) from Ke h2]
theorem cutL_take{i:Nat}(h1:i<=j)(h2:j<=ys.length):(cutL ys i j).take (i+(ys.length - j))=ys.take i++ys.drop j:=by
 unfold cutL;exact List.take_left' (by simp;omega)
theorem zdq(h:jZ t):qk t i=wi t i:=by
 have hlen:=h.1;unfold qk wi;rw[Yy h,show zX t=some (zI t) from Ke h,Kd,Kd,js (by omega) (by omega),zY,Kd,Kd,xy,ZV,zY,Kd,Kd];cases h3:zI t with
 | false=>simp only[Bool.not_false,Bool.true_or,if_true]
 |true=>
  simp only[Bool.not_true,beq_self_eq_true,if_true,Bool.false_or];cases h4:inR i 0 ((t.files.length:Int) - 1) with
  | false=>rfl
  |true=>
   obtain⟨h5,h6⟩:=inR_ge h4;obtain⟨n,rfl⟩:=Int.eq_ofNat_of_zero_le h5;have hsl:JS t.files ((n+1:Nat):Int)=some (t.files.drop (n+1)):=by unfold JS;rw[Ke ⟨by omega,by omega⟩];rfl
   have hd:q6 t.files (n:Int) ((n+1:Nat):Int)=some (t.files.take n++t.files.drop (n+1)):=by
    unfold q6;rw[Ke ⟨by omega,by omega,by omega⟩,Kf (by omega)];rfl
   rw[Kf (by decide),Kf (by decide),Ws h,Qz h,Kd,Kd,WP (by omega),zG (by omega),Kd,Kd,Kd,hsl,hd,Kd,Kd,yu (by simp;omega) (by simp;omega),Kd];show some ((⟨[]++(t.files.take n++t.files.drop (n+1))⟩:Tree),true)=some ((⟨(cutL t.files n (n+1)).take (n+(t.files.length - (n+1)))⟩:Tree),true);rw[cutL_take (by omega) (by omega)];rfl
theorem zd4(ho:∀ x∈o,x.l.length<=20)(hlt:k<o.length)(hk:o.length<=20)(h5:Yn e.dirs)(h6:e.dirs.length<=900+k):
  ∃ e',yQ f o (e,(k:Int))=some (.inl (e',((k+1:Nat):Int)))/\yk f.root o (e,(k:Int))=some (.inl (e',((k+1:Nat):Int)))/\Yn e'.dirs/\e'.dirs.length<=900+(k+1):=by
 obtain⟨x,hx,hm⟩:=Zq hlt;have hxl:=ho x hm;unfold yQ yk;dsimp only;rw[zC,Ke (decide_eq_true hlt),Ke (decide_eq_true hlt),zH,hx,Kd,Kd,dirAt_eq h5.1,zcZ h5.1,Kd,Kd,Kd,zG (by omega),dirK_idx];cases hk2:dirK e.dirs f.root x with
 |none=>
  dsimp only;rw[Ke (by decide),Ke (by decide),yu (by simp;omega) (by simp;omega),Kd,yu (by simp;omega) (by simp;omega),Kd];refine⟨{ e with dirs:=e.dirs++[⟨f.root,x,e.clock,[]⟩] },?_,Z,zd2 h5 (by omega) (by show x.l.length<=_;omega) (Nat.zero_le _),?_⟩
  ·dsimp only;rw[zH,List.getElem?_append_right (Nat.le_refl _),Nat.sub_self];simp only[List.getElem?_cons_zero,Kd,Int.toNat_natCast,List.set_append_right _ _ (Nat.le_refl _),Nat.sub_self,List.set_cons_zero]
  ·simp only[List.length_append,List.length_singleton];omega
 |some j=>
  obtain⟨g1,g2,_,_⟩:=dirK_some hk2;have gm:=List.mem_of_getElem? g2;dsimp only;rw[Kf (by simp[cmpI]),Kf (by simp[cmpI]),Kd];dsimp only;rw[zH,g2,Kd,Kd];refine⟨{ e with dirs:=e.dirs.set j { (e.dirs.getD j default) with stamp:=e.clock } },Z,Z,⟨by rw[List.length_set];exact h5.1,λ y hy=>?_⟩,by rw[List.length_set];omega⟩;rcases List.mem_or_eq_of_mem_set hy with hy | rfl
  ·exact h5.2 y hy
  ·have:=h5.2 (e.dirs.getD j default) gm;exact this
theorem stamp_names(hp:zi p=true):∃ o:List Str,((ja p).bind λ v70=>appO 16 [(⟨[]⟩:Str)] v70)=some o/\(if(decide (p≠(⟨[]⟩:Str)))=true then((qg p).bind λ v13=>(appO 16 [(⟨[]⟩:Str)] v13).bind λ v20=>some v20) else(some [(⟨[]⟩:Str)]))=some o/\o.length<=20/\∀ x∈o,x.l.length<=20:=by
 have hl:=yf hp;have ha:=above_len p;have hs:=zcS p dot;have h2:∀ x∈((⟨[]⟩:Str)::Jp p),x.l.length<=20:=λ x hx=>by
  rcases List.mem_cons.1 hx with rfl | hx
  ·exact Nat.zero_le _
  ·have:=above_mem hx;omega
 rw[NamesAbove_eq (s:=p) (by unfold sho;omega),Kd];by_cases h0:p=⟨[]⟩
 ·subst h0;rw[Kf (by decide),Kf (by decide)];exact⟨[⟨[]⟩],by rw[yu (by simp) (by simp)];rfl,Z,by decide,λ x hx=>by rw[List.mem_singleton.1 hx];exact Nat.zero_le _⟩
 ·have hv:zj p=true:=by
   unfold zi at hp;rw[Bool.or_eq_true] at hp;exact hp.resolve_left λ h=>h0 (oD h)
  rw[Ke hv,Ke (decide_eq_true h0),show qg p=some (Jp p) from Ke (by unfold mid;omega),Kd,yu (by simp;omega) (by simp;omega),Kd];exact⟨_,Z,Z,by simp;omega,h2⟩
theorem zcy(h:DiskOk d)(ht:jZ t)(hp:zi f.pkg=true)(h0:0<=ticks)(h1:ticks<=200):Zg d t f ticks=jS d t f.root f.pkg ticks:=by
 have hc:=h.clock;have hl:=h.ok.1;obtain⟨o,o1,o2,o3,o4⟩:=stamp_names hp;obtain⟨l,e1,e2⟩:=zd3 (d:=⟨t,d.clock+ticks,d.dirs⟩) (r:=f.root) (p:=f.pkg) h.ok.smd (by show d.dirs.length<=_;omega) (by have:=yf hp;omega);have hloop:zE (λ s83=>yQ f o s83) ((⟨t,d.clock+ticks,d.dirs⟩:Disk),(0:Int))=some ⟨t,d.clock+ticks,l⟩:=by
  unfold Zl at e1;rw[o2,Kd] at e1;have hs:=loop_same (f:=λ s83=>yQ f o s83) (g:=λ s33=>yk f.root o s33) (λ s=>∃ k:Nat,s.2=(k:Int)/\k<=o.length/\Yn s.1.dirs/\s.1.dirs.length<=900+k) (λ s ⟨k,k1,k2,k3,k4⟩=>by
   obtain⟨e,i⟩:=s;subst k1;rcases Nat.lt_or_ge k o.length with hlt | hge
   ·obtain⟨e',s1,s2,_⟩:=zd4 (f:=f) o4 hlt o3 k3 k4;exact s1.trans s2.symm
   ·unfold yQ yk;dsimp only;rw[zC,Kf (by simp;omega),Kf (by simp;omega)]) (λ s s' ⟨k,k1,k2,k3,k4⟩ hs=>by
   obtain⟨e,i⟩:=s;subst k1;rcases Nat.lt_or_ge k o.length with hlt | hge
   ·obtain⟨e',s1,s2,s3,s4⟩:=zd4 (f:=f) o4 hlt o3 k3 k4;have:=s1.symm.trans hs;injection this with this;injection this with this;subst this;exact⟨k+1,Z,hlt,s3,s4⟩
   ·unfold yQ at hs;dsimp only at hs;rw[zC,Kf (by simp;omega)] at hs;cases hs) (s:=((⟨t,d.clock+ticks,d.dirs⟩:Disk),(0:Int))) ⟨0,rfl,Nat.zero_le _,h.ok.smd,by show d.dirs.length<=_;omega⟩
  rw[hs]
  revert e1
  cases zE (λ s33=>yk f.root o s33) ((⟨t,d.clock+ticks,d.dirs⟩:Disk),(0:Int)) with
  | none=>intro e1;cases e1
  | some z=>intro e1;exact e1
 unfold Zg jS;rw[Kf (by simp[cmpI];omega),js (by omega) (by omega),Kd,Kd,zcv h.ok.smd,Jx h.ok.smd,Kd,Kd,e1,Kd];have hb:((ja f.pkg).bind λ v70=>(appO 16 [(⟨[]⟩:Str)] v70).bind λ v77=>zE (λ s83=>yQ f v77 s83) ((⟨t,d.clock+ticks,d.dirs⟩:Disk),(0:Int)))=some ⟨t,d.clock+ticks,l⟩:=by
  rw[← hloop,← Option.bind_assoc,o1];rfl
 rw[hb,Kd,YA ht e2,WL ht e2]
theorem DiskAdd_same(h:DiskOk d)(hf:smFile f)(hp:zi f.pkg=true)(h0:0<=ticks)(h1:ticks<=200):Yf d f ticks=w6 d f ticks:=by
 have ht:=wV h.tree;have hl:=JM h.tree;have h3:inR ticks 0 200=true:=by unfold inR;simp[cmpI];omega
 unfold Yf w6;obtain⟨t',b,e1,e2⟩:=zd1 ht hf (by omega);rw[YA ht h.ok.smd,WL ht h.ok.smd,h.fit,Kd,Kd,xy,zY,Kd,h3,AddFile_same ht hf (by omega),e1,Kf (by simp[cmpI];omega),Kf (by decide),Kd,Kd];cases b with
 | false=>rfl
 |true=>
  have hn:¬ (!(t',true).snd)=true:=by simp
  rw[Kf hn,Kf hn];dsimp only;rw[zcy h (wV (e2 Z)) hp h0 h1]
theorem zdr(h:DiskOk d)(h0:0<=ticks)(h1:ticks<=200):ql d i ticks=wj d i ticks:=by
 have ht:=wV h.tree;have h3:inR ticks 0 200=true:=by unfold inR;simp[cmpI];omega
 unfold ql wj;obtain⟨t',b,e1,e2⟩:=zbb (i:=i) ht;rw[YA ht h.ok.smd,WL ht h.ok.smd,h.fit,Kd,Kd,xy,zY,Kd,h3,zdq ht,e1,Kf (by simp[cmpI];omega),Kf (by decide),Kd,Kd];cases b with
 | false=>rfl
 |true=>
  obtain⟨k1,k2,k3⟩:=e2 Z;obtain⟨x,hx,hm⟩:=atI_ok (l:=d.tree.files) k2 k3;have hn:¬ (!(t',true).snd)=true:=by simp
  rw[Kf hn,Kf hn,hx];simp only[Kd];rw[zcy h k1 (YR (Yi h.tree hm)) h0 h1]
def k2(f:File):File:={ f with stamp:=0,body:=[] }
theorem fileAt_k2(l:List File)(f:File):yM l f=yM (l.map k2) f:=by
 unfold yM xm;rw[List.findIdx?_map];rfl
theorem zbc{n:Nat}{x:File}(h:zI t=true)(hx:t.files[n]?=some x)(hs:inR st 0 99=true)(hb:yc b=true):zI ⟨t.files.set n { x with stamp:=st,body:=b }⟩=true:=by
 have hm:(t.files.set n { x with stamp:=st,body:=b }).map k2=t.files.map k2:=by
  apply List.ext_getElem?;intro i;rw[List.getElem?_map,List.getElem?_map];by_cases hi:n=i
  ·subst hi;rw[List.getElem?_set_self (zK hx),hx];rfl
  ·rw[List.getElem?_set_ne hi]
 have ef:∀ f,yM (t.files.set n { x with stamp:=st,body:=b }) f=yM t.files f:=λ f=>by rw[fileAt_k2,hm,← fileAt_k2]
 unfold zI at h ⊢;rw[Bool.and_eq_true] at h ⊢;dsimp only;rw[List.length_set];refine⟨?_,h.2⟩;have h1:=h.1;unfold W1 at h1 ⊢;rw[List.all_eq_true] at h1 ⊢;intro k hk;have h2:=h1 k hk;unfold Qh at h2 ⊢;by_cases hkn:n=k
 ·subst hkn;rw[List.getElem?_set_self (zK hx)];rw[hx] at h2;dsimp only at h2 ⊢;rw[ef];show(!(!yy { x with stamp:=st,body:=b }||cmpI .lss (yM t.files x) n))=true;rw[Bool.not_or,Bool.not_not,Bool.and_eq_true] at h2 ⊢;refine⟨?_,h2.2⟩;have h3:=h2.1;unfold yy at h3 ⊢;dsimp only;rw[hs,hb];split at h3
  ·cases h3
  ·rename_i h4;rw[Kf (by
    intro h5;apply h4;simp only[Bool.not_true,Bool.or_false,Bool.or_eq_true] at h5 ⊢;rcases h5 with h5 | h5
    ·exact .inl (.inl (.inl h5))
    ·exact .inl (.inr h5))]
   exact h3
 ·rw[List.getElem?_set_ne hkn]
  revert h2
  cases t.files[k]? with
  | none=>exact λ h=>h
  | some g=>intro h2;dsimp only at h2 ⊢;rw[ef];exact h2
def zbd(t:Tree)(i st:Int)(b:List Stmt):Tree×Bool:=
 match (if inR i 0 ((t.files.length:Int) - 1)=true then t.files[i.toNat]? else none) with
 | some x=>(⟨t.files.set i.toNat { x with stamp:=st,body:=b }⟩,true)
 | none=>(⟨[]⟩,false)
theorem edit_both(hv:zI t=true)(hs:inR st 0 99=true)(hb:yc b=true)(hsb:yO b=some (yc b)):ZF t i st b=some (zbd t i st b)/\ZH t i st b=some (zbd t i st b):=by
 have ht:=wV hv;have hlen:=ht.1;have hbl:b.length<=8:=by
  have hb2:=hb;unfold yc at hb2;rw[Bool.and_eq_true] at hb2;have:=hb2.2;simp[cmpI] at this;omega
 unfold ZF ZH zbd;rw[Yy ht,show zX t=some (zI t) from Ke ht,Kd,Kd,js (by omega) (by omega),zY,Kd,Kd,xy,ZV,zY,Kd,Kd,xy,zY,Kd,hsb,zY,Kd,hv,hs,hb];simp only[Bool.not_true,beq_self_eq_true,if_true,Bool.false_or];cases h4:inR i 0 ((t.files.length:Int) - 1) with
 | false=>exact⟨Z,Z⟩
 |true=>
  obtain⟨h5,h6⟩:=inR_ge h4;obtain⟨n,rfl⟩:=Int.eq_ofNat_of_zero_le h5;have hlt:n<t.files.length:=by omega
  obtain⟨x,hx,hm⟩:=Zq hlt;have hset:zI ⟨t.files.set n { x with stamp:=st,body:=b }⟩=true:=zbc hv hx hs hb;have hcb:jF b=some b:=by
   unfold jF;rw[yu (by simp;omega) (by simp;omega),Kd];rfl
  rw[Kf (by decide),Ke Z,Int.toNat_natCast,hx,Qz ht,Ws ht,Kd,Kd,zH,hx,Kd,Kd,hcb,Kd,yu (by simp;omega) (by simp;omega),Kd,Yy (wV hset),hset,Kd,Kf (by decide)];exact⟨Z,Z⟩
theorem zd5{c':Int}(h:ZB c 0 l=true)(hc:inR c 0 200=true)(hc':inR c' 0 200=true)(hle:c<=c'):ZB c' 0 l=true:=by
 rw[Wb hc] at h;rw[Wb hc'];rw[Bool.and_eq_true] at h ⊢;refine⟨?_,h.2⟩;have h1:=h.1;rw[Bool.not_eq_true',List.any_eq_false] at h1 ⊢;intro x hx hp;apply h1 x hx;unfold plain at hp ⊢;rw[Bool.or_eq_true] at hp ⊢;exact hp.imp (λ hp=>decide_eq_true (by have:=oD hp;omega)) id
theorem editP_ok(hv:zI t=true)(hs:inR st 0 99=true)(hb:yc b=true)(h:(zbd t i st b).2=true):zI (zbd t i st b).1=true:=by
 unfold zbd at h ⊢;split at h
 ·rename_i x hx;split at hx
  ·exact zbc hv hx hs hb
  ·cases hx
 ·cases h
theorem change_same(h:DiskOk d)(hc:d.clock<=95)(h0:0<=ticks)(h1:ticks<=4)(hf:a.kind=0->smFile a.file/\zi a.file.pkg=true)(hb:a.kind≠0->a.kind≠1->yc a.file.body=true/\yO a.file.body=some (yc a.file.body)):qC d a ticks=wT d a ticks:=by
 have hcl:=h.clock;have hmin:(if d.clock+ticks<(99:Int) then d.clock+ticks else(99:Int))=d.clock+ticks:=by split <;> omega
 unfold qC wT;by_cases k0:a.kind=0
 ·obtain⟨f1,f2⟩:=hf k0;rw[k0,Ke (by rfl),Ke (by rfl),Wr f1.2.2.1,js (by omega) (by omega)];simp only[Kd];rw[hmin,DiskAdd_same h (f:={ a.file with stamp:=d.clock+ticks }) f1 f2 h0 (by omega)]
 ·have e0:¬ cmpI .eql a.kind 0=true:=λ e=>k0 (oD e)
  rw[Kf e0,Kf e0];by_cases k1:a.kind=1
  ·rw[k1,Ke (by rfl),Ke (by rfl),zdr h h0 (by omega)]
  ·have e1:¬ cmpI .eql a.kind 1=true:=λ e=>k1 (oD e)
   obtain⟨b1,b2⟩:=hb k0 k1;have hs:inR (d.clock+ticks) 0 99=true:=by unfold inR;simp[cmpI];omega
   have hs2:inR (d.clock+ticks) 0 200=true:=by unfold inR;simp[cmpI];omega
   have hs3:inR d.clock 0 200=true:=by unfold inR;simp[cmpI];omega
   obtain⟨q1,q2⟩:=edit_both (i:=a.index) h.tree hs b1 b2;rw[Kf e1,Kf e1,js (by omega) (by omega)];simp only[Kd];rw[hmin,q1,q2,zcv h.ok.smd,Jx h.ok.smd];simp only[Kd];cases hr:(zbd d.tree a.index (d.clock+ticks) a.file.body).2 with
   | false=>simp[gO]
   |true=>
    have ht:=editP_ok h.tree hs b1 hr;have hfit:XD ⟨(zbd d.tree a.index (d.clock+ticks) a.file.body).1,d.clock+ticks,d.dirs⟩=true:=by
     unfold XD;dsimp only;rw[ht,hs2,zd5 h.dirs hs3 hs2 (by omega)];rfl
    rw[WL (x:=⟨(zbd d.tree a.index (d.clock+ticks) a.file.body).1,d.clock+ticks,d.dirs⟩) (wV ht) h.ok.smd,hfit,zY];rfl
def After(d:Disk)(ticks:Int)(r:Disk×Bool):Prop:=r.2=true->DiskOk r.1/\r.1.clock=d.clock+ticks
theorem zbe(h:DiskOk d)(ht:jZ t)(hp:p.l.length<=16)(h0:0<=ticks)(h1:ticks<=200):∃ z,jS d t r p ticks=some z/\After d ticks z:=by
 have hc:=h.clock;have hl:=h.ok.1;unfold jS;rw[js (by omega) (by omega),Kd,Jx h.ok.smd,Kd];obtain⟨l,e1,e2⟩:=zd3 (d:=⟨t,d.clock+ticks,d.dirs⟩) (r:=r) (p:=p) h.ok.smd (by show d.dirs.length<=_;omega) hp;rw[e1,Kd,YA ht e2,Kd];cases h3:XD ⟨t,d.clock+ticks,l⟩ with
 | false=>exact⟨_,Z,λ h=>by cases h⟩
 | true=>exact⟨_,Z,λ _=>⟨diskFit_ok h3,Z⟩⟩
theorem add_after(h:DiskOk d)(hf:smFile f)(hp:zi f.pkg=true)(h0:0<=ticks)(h1:ticks<=200):∃ z,w6 d f ticks=some z/\After d ticks z:=by
 have ht:=wV h.tree;have hl:=JM h.tree;have h3:inR ticks 0 200=true:=by unfold inR;simp[cmpI];omega
 have hpl:=yf hp;unfold w6;obtain⟨t',b,e1,e2⟩:=zd1 ht hf (by omega);rw[YA ht h.ok.smd,h.fit,Kd,xy,zY,Kd,h3,Kf (by decide),e1,Kd];cases b with
 | false=>exact⟨_,Z,λ h=>by cases h⟩
 |true=>obtain⟨z,j1,j2⟩:=zbe (r:=f.root) (p:=f.pkg) h (wV (e2 Z)) (by omega) h0 h1;rw[Kf (show ¬ (!true)=true by decide)];dsimp only;rw[j1];exact⟨_,Z,j2⟩
theorem remove_after(h:DiskOk d)(h0:0<=ticks)(h1:ticks<=200):∃ z,wj d i ticks=some z/\After d ticks z:=by
 have ht:=wV h.tree;have h3:inR ticks 0 200=true:=by unfold inR;simp[cmpI];omega
 unfold wj;obtain⟨t',b,e1,e2⟩:=zbb (i:=i) ht;rw[YA ht h.ok.smd,h.fit,Kd,xy,zY,Kd,h3,Kf (by decide),e1,Kd];cases b with
 | false=>exact⟨_,Z,λ h=>by cases h⟩
 |true=>obtain⟨k1,k2,k3⟩:=e2 Z;obtain⟨x,hx,hm⟩:=atI_ok (l:=d.tree.files) k2 k3;have hp:=yf (YR (Yi h.tree hm));obtain⟨z,j1,j2⟩:=zbe (r:=x.root) (p:=x.pkg) h k1 (by omega) h0 h1;rw[Kf (show ¬ (!true)=true by decide),hx,Kd,Kd];dsimp only;rw[j1];exact⟨_,Z,j2⟩
theorem change_after(h:DiskOk d)(hc:d.clock<=95)(h0:0<=ticks)(h1:ticks<=4)(hf:a.kind=0->smFile a.file/\zi a.file.pkg=true)(hb:a.kind≠0->a.kind≠1->yc a.file.body=true/\yO a.file.body=some (yc a.file.body)):∃ z,wT d a ticks=some z/\After d ticks z:=by
 have hcl:=h.clock;have hmin:(if d.clock+ticks<(99:Int) then d.clock+ticks else(99:Int))=d.clock+ticks:=by split <;> omega
 unfold wT;by_cases k0:a.kind=0
 ·obtain⟨f1,f2⟩:=hf k0;rw[k0,Ke (by rfl),Wr f1.2.2.1,js (by omega) (by omega)];simp only[Kd];rw[hmin];obtain⟨z,j1,j2⟩:=add_after h (f:={ a.file with stamp:=d.clock+ticks }) f1 f2 h0 (by omega);exact⟨_,by rw[j1,Kd],j2⟩
 ·have e0:¬ cmpI .eql a.kind 0=true:=λ e=>k0 (oD e)
  rw[Kf e0];by_cases k1:a.kind=1
  ·rw[k1,Ke (by rfl)];obtain⟨z,j1,j2⟩:=remove_after h (i:=a.index) h0 (by omega);exact⟨_,by rw[j1,Kd],j2⟩
  ·have e1:¬ cmpI .eql a.kind 1=true:=λ e=>k1 (oD e)
   obtain⟨b1,b2⟩:=hb k0 k1;have hs:inR (d.clock+ticks) 0 99=true:=by unfold inR;simp[cmpI];omega
   have hs2:inR (d.clock+ticks) 0 200=true:=by unfold inR;simp[cmpI];omega
   have hs3:inR d.clock 0 200=true:=by unfold inR;simp[cmpI];omega
   obtain⟨_,q2⟩:=edit_both (i:=a.index) h.tree hs b1 b2;rw[Kf e1,js (by omega) (by omega)];simp only[Kd];rw[hmin,q2,Jx h.ok.smd];simp only[Kd];cases hr:(zbd d.tree a.index (d.clock+ticks) a.file.body).2 with
   | false=>exact⟨_,Z,λ h=>by cases h⟩
   | true=>exact⟨_,Z,λ _=>⟨⟨editP_ok h.tree hs b1 hr,⟨by show 0<=d.clock+ticks;omega,by show d.clock+ticks<=200;omega⟩,zd5 (c':=d.clock+ticks) h.dirs hs3 hs2 (by omega)⟩,Z⟩⟩
theorem zbf{s:Str}(h:s.l.length<=1048576):xV s=some (zB s):=by
 unfold xV;have hl:zE (λ s10=>qI s s10) 0=some (if s.l.any (λ b=>!low b)=true then .inr false else .inl ()):=by
  refine qu _ _ _ _ (λ k x hx hlt=>?_) ?_ (by omega) Z
  ·unfold qI;rw[zC,Ke (decide_eq_true hlt),zH,hx,Kd,zY,Kd,zG (by omega)];have e1:UInt8.ofNat 97=97:=rfl;have e2:UInt8.ofNat 122=122:=rfl;rw[e1,e2];have e3:low x=!(cmpB .lss x 97||cmpB .gtr x 122):=by unfold low;simp[cmpB]
   rw[e3];cases h1:cmpB .lss x 97 with
   | true=>rfl
   | false=>cases h2:cmpB .gtr x 122 <;> simp[h2]
  ·unfold qI;rw[zC,Kf (by simp)]
 rw[xy,Kd,hl,Wa];unfold zB;cases inR (s.l.length:Int) 1 3 with
 | false=>rfl
 |true=>cases s.l.all low <;> rfl
theorem validStmt_eq'(h:smStmt s):Zh s=some (zP s):=by
 have h1:=h.1;have h2:=h.2;unfold Zh zP;rw[show ye s.module=some (zj s.module) from Ke (by unfold mid;omega),show yJ s.module=some (zi s.module) from Ke (by unfold mid;omega),zbf h2];simp only[Kd,zY,xy];generalize zj s.module=a;generalize zi s.module=b;generalize zB s.name=c;generalize inR s.level 0 3=d;generalize inR s.value 0 99=e;generalize cmpI .eql s.level 0=l0;generalize cmpI .eql s.value 0=v0;generalize cmpI .gtr s.level 0=lg;generalize decide (s.name=(⟨[]⟩:Str))=n0;generalize decide (s.module=(⟨[]⟩:Str))=m0;generalize decide (s.module≠(⟨[]⟩:Str))=m1;split
 ·rfl
 split
 ·cases b <;> cases d <;> cases m1 <;> cases lg <;> cases c <;> cases v0 <;> rfl
 split
 ·rfl
 split
 ·cases m0 <;> cases l0 <;> cases c <;> cases e <;> rfl
 split
 ·cases m0 <;> cases l0 <;> cases c <;> cases v0 <;> rfl
 split <;> rfl
theorem JO(hlen:b.length<=1048576)(h:∀ s∈b,smStmt s):yO b=some (yc b):=by
 unfold yO;have hl:zE (λ s4=>wr b s4) 0=some (if b.any (λ x=>!zP x)=true then .inr false else .inl ()):=by
  refine qu _ _ _ _ (λ k x hx hlt=>?_) ?_ (by omega) Z
  ·unfold wr;rw[zC,Ke (decide_eq_true hlt),zH,hx,Kd,validStmt_eq' (h x (List.mem_of_getElem? hx)),Kd,zG (by omega)];cases zP x <;> rfl
  ·unfold wr;rw[zC,Kf (by simp)]
 rw[hl,Kd,Wa];unfold yc;cases b.all zP <;> rfl
theorem child_len'(p s:Str):(child p s).l.length<=p.l.length+s.l.length+1:=by
 unfold child;split
 ·omega
 ·simp only[List.length_append,List.length_singleton];omega
theorem validFile_eq'(h:smFile f):Zi f=some (yy f):=by
 obtain⟨h1,h2,h3,h4⟩:=h;unfold Zi yy;rw[show yJ f.pkg=some (zi f.pkg) from Ke (by unfold mid;omega),JO h3 h4,zbf h2,show jr f.pkg f.name=some (child f.pkg f.name) from Ke (by omega)];simp only[Kd,zY,xy];generalize inR f.root 0 2=a;generalize inR f.stamp 0 99=b;generalize zi f.pkg=c;generalize yc f.body=d;cases a <;> cases b <;> cases c <;> cases d <;> (try rfl);simp only[Bool.not_true,beq_self_eq_true,if_true,Bool.or_self,Bool.false_eq_true,if_false];split
 ·rfl
 ·cases hp:zB f.name with
  | false=>rfl
  |true=>simp only[beq_self_eq_true,if_true];rw[show ye (child f.pkg f.name)=some (zj (child f.pkg f.name)) from Ke (by have:=child_len' f.pkg f.name;unfold mid;omega),zY];rfl
def Zs(a:GAct):Bool:=
 if cmpI .eql a.kind 0=true then yy a.file else if cmpI .eql a.kind 1=true then true else if cmpI .eql a.kind 2=true then yc a.file.body else if cmpI .eql a.kind 3=true then zj a.name else false
def QA(l:List GAct):Bool:=l.all Zs&&cmpI .leq (l.length:Int) 20
def XH(a:GAct):Prop:=smFile a.file/\sho a.name
theorem ValidActs_eq{l:List GAct}(hlen:l.length<=1048576)(h:∀ a∈l,XH a):Ze l=some (QA l):=by
 unfold Ze;have hl:zE (λ s4=>wm l s4) 0=some (if l.any (λ x=>!Zs x)=true then .inr false else .inl ()):=by
  refine qu _ _ _ _ (λ k x hx hlt=>?_) ?_ (by omega) Z
  ·obtain⟨f1,f2⟩:=h x (List.mem_of_getElem? hx);unfold wm;rw[zC,Ke (decide_eq_true hlt),zH,hx,Kd,fileOk_eq f1,zcg f1.2.2.1 f1.2.2.2,wl f2,zG (by omega)];simp only[Kd];unfold Zs;generalize yy x.file=a;generalize yc x.file.body=b;generalize zj x.name=c;split
   ·cases a <;> rfl
   split
   ·rfl
   split
   ·cases b <;> rfl
   split
   ·cases c <;> rfl
   rfl
  ·unfold wm;rw[zC,Kf (by simp)]
 rw[hl,Kd,Wa];unfold QA;cases l.all Zs <;> rfl
theorem validActs_eq'{l:List GAct}(hlen:l.length<=1048576)(h:∀ a∈l,XH a):Zj l=some (QA l):=by
 unfold Zj;have hl:zE (λ s4=>ws l s4) 0=some (if l.any (λ x=>!Zs x)=true then .inr false else .inl ()):=by
  refine qu _ _ _ _ (λ k x hx hlt=>?_) ?_ (by omega) Z
  ·obtain⟨f1,f2⟩:=h x (List.mem_of_getElem? hx);unfold ws;rw[zC,Ke (decide_eq_true hlt),zH,hx,Kd,validFile_eq' f1,JO f1.2.2.1 f1.2.2.2,show ye x.name=some (zj x.name) from Ke (by have:=f2;unfold sho at this;unfold mid;omega),zG (by omega)];simp only[Kd];unfold Zs;generalize yy x.file=a;generalize yc x.file.body=b;generalize zj x.name=c;split
   ·cases a <;> rfl
   split
   ·rfl
   split
   ·cases b <;> rfl
   split
   ·cases c <;> rfl
   rfl
  ·unfold ws;rw[zC,Kf (by simp)]
 rw[hl,Kd,Wa];unfold QA;cases l.all Zs <;> rfl
end Go.Proofs.YtandbaloaenciaaGreatDoor
