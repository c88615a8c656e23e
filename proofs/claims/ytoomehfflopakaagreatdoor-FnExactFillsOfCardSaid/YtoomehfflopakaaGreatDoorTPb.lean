import Derived.Test.YtoomehfflopakaaGreatDoorTI
import Derived.Test.YtoomehfflopakaaGreatDoorTKb
namespace Go.Proofs.YtoomehfflopakaaGreatDoor
open Go.RowKit
variable{d e:Disk}{f:File}{a:GAct}{c i r st ticks:Int}{l:List Dir}{path roots:List Int}{b x y:List Stmt}{o:List Str}{j k:Nat}{p s:Str}{t:Tree}
def zbP(x:Stmt):Nat:=x.module.l.length+(x.name.l.length+(0))
variable{α β γ:Type}{ys:List γ}
theorem szStmt_eq{x:Stmt}{l:Int}(h0:Okd x)(hl:0<=l)(h2:l<=1048576):XA x l=some (szR (zbP x) l):=by
 unfold XA zbP;exact zdI hl h2 ((h0.fld Stmt.fld1)).str (λ v1 l1 u1=>zdI l1 u1 ((h0.fld Stmt.fld3)).str (λ v2 l2 u2=>szS_end l2))
def Jo(xs:List Stmt):Nat:=xs.length+sumL zbP xs
theorem lenStmtS_le{n:Nat}(h:Jo x<=n):x.length<=n:=by unfold Jo at h;omega
theorem szStmtS_eq{l:Int}(h0:Okd x)(hl:0<=l)(h2:l<=1048576):Y3 x l=some (szR (Jo x) l):=by
 unfold Y3 Jo;refine szS_list h0.len (λ k hk l hn h3 h4=>?_) (λ l=>?_) hl h2
 ·unfold Zb;simp only[zbt hk,bI,Qj hk,Kb,szStmt_eq (h0.mem (bi hk)) h3 h4];by_cases e:szR (zbP x[k]) l<0
  ·rw[Kc (by simp[cmpI,e]),Kc e]
  ·rw[Kd (by simp[cmpI];omega),Kd e,zG (by omega)];rfl
 ·unfold Zb;rw[Qv];rfl
def Qy(x:File):Nat:=x.pkg.l.length+(x.name.l.length+(Jo x.body+(0)))
theorem szFile_eq{x:File}{l:Int}(h0:Okd x)(hl:0<=l)(h2:l<=1048576):XB x l=some (szR (Qy x) l):=by
 unfold XB Qy;exact zdI hl h2 ((h0.fld File.fld1)).str (λ v1 l1 u1=>zdI l1 u1 ((h0.fld File.fld2)).str (λ v2 l2 u2=>szS_sub l2 u2 (szStmtS_eq (h0.fld File.fld5) l2 u2) (λ v3 l3 u3=>szS_end l3)))
def WV(x:GAct):Nat:=Qy x.file+(x.name.l.length+(0))
theorem szAct_eq{x:GAct}{l:Int}(h0:Okd x)(hl:0<=l)(h2:l<=1048576):Ws x l=some (szR (WV x) l):=by
 unfold Ws WV;exact szS_sub hl h2 (szFile_eq (h0.fld GAct.fld1) hl h2) (λ v1 l1 u1=>zdI l1 u1 ((h0.fld GAct.fld3)).str (λ v2 l2 u2=>szS_end l2))
def Xi(xs:List GAct):Nat:=xs.length+sumL WV xs
theorem lenActS_le{x:List GAct}{n:Nat}(h:Xi x<=n):x.length<=n:=by unfold Xi at h;omega
theorem szActS_eq{x:List GAct}{l:Int}(h0:Okd x)(hl:0<=l)(h2:l<=1048576):XC x l=some (szR (Xi x) l):=by
 unfold XC Xi;refine szS_list h0.len (λ k hk l hn h3 h4=>?_) (λ l=>?_) hl h2
 ·unfold ZY;simp only[zbt hk,bI,Qj hk,Kb,szAct_eq (h0.mem (bi hk)) h3 h4];by_cases e:szR (WV x[k]) l<0
  ·rw[Kc (by simp[cmpI,e]),Kc e]
  ·rw[Kd (by simp[cmpI];omega),Kd e,zG (by omega)];rfl
 ·unfold ZY;rw[Qv];rfl
theorem eqStmt_eq{x y:Stmt}:XE x y=some (decide (x=y)):=by
 have e:(x=y)=(x.kind=y.kind/\x.module=y.module/\x.level=y.level/\x.name=y.name/\x.value=y.value/\True):=by cases x;cases y;simp
 unfold XE;simp only[e];exact zaz (zdJ (zaz (zdJ (zaz (eqS_end)))))
theorem eqStmtS_eq(h:x.length<=288230376151711744):Y4 x y=some (decide (x=y)):=by
 unfold Y4;refine eqS_list (λ k hk hk2=>?_) ?_ (by omega)
 ·unfold Zc;simp only[zbt hk,bI,Qj hk,Qj hk2,Kb,eqStmt_eq,zG (show k<4611686018427387904 by omega)];by_cases e:x[k]=y[k] <;> simp[e]
 ·unfold Zc;rw[Qv];rfl
theorem eqFile_eq{x y:File}(h:Qy x<=288230376151711744):XF x y=some (decide (x=y)):=by
 have e:(x=y)=(x.root=y.root/\x.pkg=y.pkg/\x.name=y.name/\x.init=y.init/\x.stamp=y.stamp/\x.body=y.body/\True):=by cases x;cases y;simp
 unfold Qy at h;unfold XF;simp only[e];exact zaz (zdJ (zdJ (eqS_bool (zaz (eqS_sub (eqStmtS_eq (lenStmtS_le (by omega))) (eqS_end))))))
theorem eqAct_eq{x y:GAct}(h:WV x<=288230376151711744):Wu x y=some (decide (x=y)):=by
 have e:(x=y)=(x.kind=y.kind/\x.file=y.file/\x.index=y.index/\x.name=y.name/\True):=by cases x;cases y;simp
 unfold WV at h;unfold Wu;simp only[e];exact zaz (eqS_sub (eqFile_eq (by omega)) (zaz (zdJ (eqS_end))))
theorem eqActS_eq{x y:List GAct}(h:Xi x<=288230376151711744):Yz x y=some (decide (x=y)):=by
 unfold Xi at h;unfold Yz;refine eqS_list (λ k hk hk2=>?_) ?_ (by omega)
 ·unfold Z0;simp only[zbt hk,bI,Qj hk,Qj hk2,Kb,eqAct_eq (x:=x[k]) (y:=y[k]) (by have:=zbs (f:=WV) (bi hk);omega),zG (show k<4611686018427387904 by omega)];by_cases e:x[k]=y[k] <;> simp[e]
 ·unfold Z0;rw[Qv];rfl
def totIntS(xs:List Int):Nat:=xs.length
theorem eqIntS_eq{x y:List Int}(h:x.length<=288230376151711744):Yy x y=some (decide (x=y)):=by
 unfold Yy;refine eqS_list (λ k hk hk2=>?_) ?_ (by omega)
 ·unfold ZZ;simp only[zbt hk,bI,Qj hk,Qj hk2,Kb,zG (show k<4611686018427387904 by omega)];by_cases e:x[k]=y[k] <;> simp[e,cmpI]
 ·unfold ZZ;rw[Qv];rfl
theorem toStmt_eq{x:Stmt}:XD x=some x:=by
 unfold XD;cases x;rfl
theorem toStmtS_eq(h:Jo x<=1048576):Wt x=some x:=by
 unfold Jo at h;unfold Wt;rw[makeO_of (by omega) (by omega) (by omega),Kb];have hl:zE (λ s=>jC x s) (List.replicate x.length zStmt,0)=some x:=by
  refine zem x zStmt (λ k hk=>?_) (λ ys=>?_) (by omega) Z
  ·unfold jC;simp only[zbt hk,bI,Qj hk,Kb,toStmt_eq,zz,at_at hk,zbp (len_at hk),zG (show k<4611686018427387904 by omega)]
  ·unfold jC;rw[Qv];rfl
 rw[hl];rfl
theorem toFile_eq{x:File}(h:Qy x<=1048576):Ja x=some x:=by
 unfold Qy at h;unfold Ja;rw[toStmtS_eq (x:=x.body) (by omega),Kb]
theorem toAct_eq{x:GAct}(h:WV x<=1048576):JN x=some x:=by
 unfold WV at h;unfold JN;rw[toFile_eq (x:=x.file) (by omega),Kb]
theorem toActS_eq{x:List GAct}(h:Xi x<=1048576):Yx x=some x:=by
 unfold Xi at h;unfold Yx;rw[makeO_of (by omega) (by omega) (by omega),Kb];have hl:zE (λ s=>qk x s) (List.replicate x.length zGAct,0)=some x:=by
  refine zem x zGAct (λ k hk=>?_) (λ ys=>?_) (by omega) Z
  ·unfold qk;simp only[zbt hk,bI,Qj hk,Kb,toAct_eq (x:=x[k]) (by have:=zbs (f:=WV) (bi hk);omega),zz,at_at hk,zG (show k<4611686018427387904 by omega),zen]
  ·unfold qk;rw[Qv];rfl
 rw[hl];rfl
theorem toIntS_eq{x:List Int}(h:totIntS x<=1048576):Zn x=some x:=by
 unfold totIntS at h;unfold Zn;rw[makeO_of (by omega) (by omega) (by omega),Kb];have hl:zE (λ s=>qj x s) (List.replicate x.length zInt,0)=some x:=by
  refine zem x zInt (λ k hk=>?_) (λ ys=>?_) (by omega) Z
  ·unfold qj;simp only[zbt hk,bI,Qj hk,Kb,zz,at_at hk,zbp (len_at hk),zG (show k<4611686018427387904 by omega)]
  ·unfold qj;rw[Qv];rfl
 rw[hl];rfl
def Y6(l:List Dir):Prop:=l.length<=1048576/\∀ d∈l,d.pkg.l.length<=1048576/\d.names.length<=1048576
theorem xP(a b c:Int):yt a b c=some (inR a b c):=rfl
def JE(r:Int)(p:Str)(d:Dir):Bool:=cmpI .eql d.root r&&decide (d.pkg=p)
theorem atDir_self(d:Dir):JE d.root d.pkg d=true:=by simp[JE,cmpI]
theorem zdM(h:l.length<=1048576):qT l r p=some (xk (JE r p) l):=by
 unfold qT xN;have hl:zE (λ s4=>ye l (λ a0=>Wj a0 r p) s4) 0=some (match l.findIdx? (JE r p) with | some i=>(Sum.inr (i:Int):Unit⊕Int) | none=>Sum.inl ()):=by
  refine Yn l _ (λ i=>Sum.inr i) _ (λ k x hx hlt=>?_) ?_ (by omega) Z
  ·unfold ye;rw[zx,Kc (ab hlt),zz,hx,Kb];show Option.bind (some (JE r p x)) _=_;rw[Kb,zG (by omega)];cases JE r p x <;> rfl
  ·unfold ye;rw[zx,Kd (by simp)]
 rw[hl];unfold xk
 grind
theorem zag(h:l.length<=1048576):qY l r p=some (xk (JE r p) l):=by
 unfold qY;have hl:zE (λ s4=>qJ l r p s4) 0=some (match l.findIdx? (JE r p) with | some i=>(Sum.inr (i:Int):Unit⊕Int) | none=>Sum.inl ()):=by
  refine Yn l _ (λ i=>Sum.inr i) _ (λ k x hx hlt=>?_) ?_ (by omega) Z
  ·unfold qJ;rw[zx,Kc (ab hlt),zz,hx,Kb,zX,Kb,zG (by omega)];unfold JE;cases cmpI .eql x.root r with
   | false=>rfl
   | true=>simp only[aW,bI,br];cases decide (x.pkg=p) <;> rfl
  ·unfold qJ;rw[zx,Kd (by simp)]
 rw[hl];exact idx_join _ _
def Jz(S n:Int)(l:List Dir)(k:Nat):Bool:=match l[k]? with
 | some d=>!((((!inR d.root 0 2||!zf d.pkg)||!inR d.stamp 0 S)||cmpI .gtr (d.names.length:Int) n)||(l.take k).any (JE d.root d.pkg))
 | none=>true
def Z9(S n:Int)(l:List Dir):Bool:=(List.range l.length).all (Jz S n l)&&cmpI .leq (l.length:Int) 20
theorem dirsOk_eq{S n:Int}(h:Y6 l):Xx l S n=some (Z9 S n l):=by
 have hlen:=h.1;unfold Xx;have hl:zE (λ s4=>j8 l S n s4) 0=some (if(List.range l.length).any (λ k=>!Jz S n l k)=true then .inr false else .inl ()):=by
  refine Ze _ _ _ _ (λ k x hx hlt=>?_) ?_ (by rw[bd];omega) Z
  ·rw[bd] at hlt;rw[ck hlt] at hx;injection hx with hx;subst hx;obtain⟨d,hd,hm⟩:=jN hlt;have hpk:sho d.pkg:=by have:=(h.2 d hm).1;unfold sho;omega
   have htl:(l.take k).length<=1048576:=by simp;omega
   have ht:Jz S n l k=!((((!inR d.root 0 2||!zf d.pkg)||!inR d.stamp 0 S)||cmpI .gtr (d.names.length:Int) n)||(l.take k).any (JE d.root d.pkg)):=by unfold Jz;rw[hd]
   unfold j8;rw[zx,Kc (ab hlt),zz,hd,Kb,qM,Kb,Xg hpk,qM,JU (by omega),zG (by omega),ht];cases inR d.root 0 2 with
   | false=>rfl
   |true=>
    cases zf d.pkg with
    | false=>rfl
    |true=>
     cases inR d.stamp 0 S with
     | false=>rfl
     |true=>
      cases cmpI .gtr _ n with
      | true=>rfl
      |false=>simp only[dP,aW,Bool.or_self,c9,wr,Kb];rw[zdM htl,Kb,Ww];cases(l.take k).any _ <;> rfl
  ·unfold j8;rw[bd,zx,Kd (by simp)]
 rw[hl,Kb,Jb];unfold Z9
 grind
theorem zdN(h:Y6 l):ZU l=some (Z9 200 12 l):=by
 have hlen:=h.1;unfold ZU;have hl:zE (λ s4=>wM l s4) 0=some (if(List.range l.length).any (λ k=>!Jz 200 12 l k)=true then .inr false else .inl ()):=by
  refine Ze _ _ _ _ (λ k x hx hlt=>?_) ?_ (by rw[bd];omega) Z
  ·rw[bd] at hlt;rw[ck hlt] at hx;injection hx with hx;subst hx;obtain⟨d,hd,hm⟩:=jN hlt;have hpk:yT d.pkg=some _:=Kc (by have:=(h.2 d hm).1;unfold mid;omega);have ht:Jz 200 12 l k=!((((!inR d.root 0 2||!zf d.pkg)||!inR d.stamp 0 200)||cmpI .gtr (d.names.length:Int) 12)||(l.take k).any (JE d.root d.pkg)):=by unfold Jz;rw[hd]
   unfold wM;rw[zx,Kc (ab hlt),zz,hd,Kb,xP,Kb,zG (by omega),ht];cases inR d.root 0 2 with
   | false=>rfl
   |true=>
    rw[show(_ == false)=true from Z,wr,Kb,wr,hpk,Kb];cases zf d.pkg with
    | false=>rfl
    |true=>
     rw[show(_ == false)=true from Z,wr,Kb,wr,xP,Kb];cases inR d.stamp 0 200 with
     | false=>rfl
     |true=>
      rw[show(_ == false)=true from Z,wr,Kb,Kb,wr,zag hlen,Kb,idxOf_lss hd (atDir_self d)];cases(l.take k).any _ with
      | true=>cases cmpI .gtr _ 12 <;> rfl
      |false=>rw[show(_ == false)=true from Z,wr,Kb];cases cmpI .gtr _ 12 <;> rfl
  ·unfold wM;rw[bd,zx,Kd (by simp)]
 rw[hl,Kb,Jb];unfold Z9
 grind
def finderFit(x:Finder):Bool:=(Z9 200 12 x.dirs&&inR x.fills 0 1000)&&inR x.hits 0 1000
def Wy(x:Disk):Bool:=(yh x.tree&&inR x.clock 0 200)&&Z9 x.clock 0 x.dirs
theorem JQ{x:Disk}(ht:wR x.tree)(h:Y6 x.dirs):wl x=some (Wy x):=by
 unfold wl Wy;rw[Xh ht,Kb,qM,dirsOk_eq h,zX,Kb,zX,Kb]
 grind
def plain(c:Int)(d:Dir):Bool:=cmpI .gtr d.stamp c||cmpI .gtr (d.names.length:Int) 0
theorem Jd(hc:inR c 0 200=true)(l:List Dir):Z9 c 0 l=(!l.any (plain c)&&Z9 200 12 l):=by
 unfold inR at hc;rw[af] at hc;have h1:=oD hc.1;have h2:=oD hc.2;unfold Z9;rw[← Bool.and_assoc]
 congr 1
 rw[bO,al,af,al,cw,bW];have key:∀ (k:Nat) (d:Dir),l[k]?=some d->(Jz c 0 l k=true ↔ plain c d=false/\Jz 200 12 l k=true):=by
  intro k d hd;unfold Jz plain inR;rw[hd];simp only[cmpI,cw,Bool.or_eq_false_iff,dL,af,bt,decide_eq_false_iff_not];constructor
  ·rintro ⟨⟨⟨⟨⟨a1,a2⟩,a3⟩,a4,a5⟩,a6⟩,a7⟩
   and_intros <;> first | assumption | omega
  ·rintro ⟨⟨b1,b2⟩,⟨⟨⟨⟨a1,a2⟩,a3⟩,a4,a5⟩,a6⟩,a7⟩
   and_intros <;> first | assumption | omega
 constructor
 ·intro h;refine⟨λ d hd=>?_,λ k hk=>?_⟩
  ·obtain⟨k,hk⟩:=aN hd;rw[((key k d hk).1 (h k (az.2 (zJ hk)))).1]
   decide
  ·obtain⟨d,hd,_⟩:=jN (az.1 hk);exact((key k d hd).1 (h k hk)).2
 ·rintro ⟨ha,hb⟩ k hk
  obtain⟨d,hd,hm⟩:=jN (az.1 hk);exact(key k d hd).2 ⟨by simpa using ha d hm,hb k hk⟩
theorem Xj{x:Disk}(ht:wR x.tree)(h:Y6 x.dirs):w8 x=some (Wy x):=by
 have hlen:=h.1;unfold w8;have hl:zE (λ s4=>wN x s4) 0=some (if x.dirs.any (plain x.clock)=true then(Sum.inr false:Unit⊕Bool) else .inl ()):=by
  refine Ze x.dirs _ _ _ (λ k d hd hlt=>?_) ?_ (by omega) Z
  ·unfold wN plain;rw[zx,Kc (ab hlt),zz,hd,Kb,zX,Kb,zG (by omega)];cases cmpI .gtr d.stamp x.clock with
   | true=>rfl
   | false=>simp;cases cmpI .gtr _ 0 <;> rfl
  ·unfold wN;rw[zx,Kd (by simp)]
 have e1:yn x.tree=some _:=Kc ht;rw[hl,Kb];unfold Wy;cases hc:inR x.clock 0 200 with
 |true=>
  rw[Jd hc];cases x.dirs.any _ with
  | true=>cases yh x.tree <;> rfl
  |false=>
   rw[Kd (by decide),dH,e1,Kb,xP,hc,zdN h,zX,Kb,zX,Kb];cases yh x.tree with
   | false=>rfl
   | true=>cases Z9 200 12 x.dirs <;> rfl
 |false=>
  cases x.dirs.any _ with
  | true=>cases yh x.tree <;> rfl
  |false=>rw[Kd (by decide),dH,e1,Kb,xP,hc,zdN h,zX,Kb,zX,Kb];cases yh x.tree <;> rfl
theorem Cut_eq(hs:s.l.length<=4611686018427387904):∃ a b,jT s ⟨[46]⟩=some ((((zB s dot)[0]?).getD emptyS),a,b):=by
 have hge:=Lib.indexByte_ge s.l 46;unfold jT xv;rw[show yJ s ⟨[46]⟩=some _ from Z,Kb,jk];cases hc:cmpI .geq _ 0 with
 |false=>
  rw[Kd (by decide),Kb];have h0:Lib.indexByte s.l 46<0:=by have:=bC hc;omega
  have h1:cutF dot s.l=[s.l]:=XG 46 s.l h0;rw[h1];exact⟨_,_,Z⟩
 |true=>
  have h0:=oD hc;obtain⟨h1,h2⟩:=XH 46 s.l h0;obtain⟨n,hn⟩:∃ n:Nat,Lib.indexByte s.l 46=n:=⟨_,(bE h0).symm⟩;rw[hn] at h1 h2 ⊢;have h3:cutF dot s.l=s.l.take n::cutF 46 _:=h2;have hl:n+1<=s.l.length:=by omega
  rw[Kc Z,zae (by omega),Kb,show((n:Int)+((⟨[46]⟩:Str).l.length:Int))=((n:Int)+1) from Z,xb (by omega) (by omega),Kb,show((n:Int)+1)=((n+1:Nat):Int) from Z,JT hl,Kb,Kb,h3];exact⟨_,_,Z⟩
def below(s p:Str):Str:=if p=emptyS then s else⟨s.l.drop (p.l.length+1)⟩
def zbw(s p:Str):Str:=((zB (below s p) dot)[0]?).getD emptyS
theorem zer(s p:Str):(below s p).l.length<=s.l.length:=by
 unfold below
 grind
theorem zcR(s p:Str):(zB (below s p) dot)[0]?=some (zbw s p)/\(zbw s p).l.length<=s.l.length+1:=by
 obtain⟨x,hx,hm⟩:=jN (Q0 _ dot);have h1:zbw s p=x:=by unfold zbw;rw[hx];rfl
 have h2:=zfE hm;have h3:=zer s p
 grind
theorem below_eq(h:p=emptyS\/p.l.length+1<=s.l.length)(hs:s.l.length<=1048576):
  (if(decide (p≠(⟨[]⟩:Str)))=true then((i64 ((p.l.length:Int)+(1:Int))).bind λ a8=>(zb3 s a8).bind λ a9=>some a9) else(some s))=some (below s p):=by
 unfold below emptyS;by_cases he:p=⟨[]⟩
 ·rw[Kd (by simp[he]),Kc he]
 ·have h2:=h.resolve_left he;rw[Kc (by simp[he]),Kd he,zG (by omega),Kb,JT h2];rfl
theorem zfM(hu:under s p=true)(hne:s≠p):p=emptyS\/p.l.length+1<=s.l.length:=by
 unfold under at hu;rw[bB,bB,af] at hu;rcases hu with(h | h) | h
 ·exact .inl (oD h)
 ·exact absurd (oD h) hne
 ·have:=oD h.1;exact .inr (by omega)
theorem firstBelow_eq(h:p=emptyS\/p.l.length+1<=s.l.length)(hs:s.l.length<=1048576):Za s p=some (zbw s p):=by
 unfold Za;have hl:=zer s p;rw[below_eq h hs,Kb,show qt _ (UInt8.ofNat 46)=some (zB _ dot) from Kc (by unfold mid;omega),Kb];rw[show atI _ (0:Int)=some _ from(zz _ 0).trans (zcR s p).1];rfl
def star:Str:=⟨[42]⟩
def Ql(r:Int)(p:Str)(f:File):List Str:=
 if cmpI .neq f.root r=true then[] else if f.pkg=p then[if f.init=true then star else f.name] else if(zm f.pkg&&under f.pkg p)=true then[⟨(zbw f.pkg p).l++[47]⟩] else[]
theorem items_len(r:Int)(p:Str)(f:File):(Ql r p f).length<=1:=by
 unfold Ql
 grind
theorem zdO(r:Int)(p:Str)(l:List File):(l.flatMap (Ql r p)).length<=l.length:=by
 induction l with
 | nil=>exact ak _
 | cons f l ih=>have:=items_len r p f;grind
theorem rows_next{l:List File}(hf:l[k]?=some f):(l.take (k+1)).flatMap (Ql r p)=(l.take k).flatMap (Ql r p)++Ql r p f:=by
 rw[be,hf,List.flatMap_append];simp
theorem listDir_eq(ht:wR t)(hv:yh t=true)(hp:zf p=true):Wk t r p=some (Jc (t.files.flatMap (Ql r p))):=by
 unfold Wk;have hlen:=YB hv;have hpl:=zV hp;have hrl:=zdO r p t.files;have hl:zE (λ s5=>jA t r p s5) ([],(0:Int))=some (t.files.flatMap (Ql r p)):=by
  refine YA t.files.length (λ k=>((t.files.take k).flatMap _,(k:Int))) (λ k hk=>?_) (by unfold jA;simp only;rw[zx,Kd (by simp),aL]) (by omega) Z;obtain⟨f,hf,hm⟩:=jN hk;have h1:=zdO r p (t.files.take k);rw[aI] at h1;have hsm:=ht.2 f hm;rw[rows_next hf];unfold jA;simp only;rw[zx,Kc (ab hk),zz,hf,Kb,zG (k:=k) (by omega)];generalize (t.files.take k).flatMap _=out at h1 ⊢;have happ:∀ x:Str,appO 16 out [x]=some _:=λ x=>yk (by simp;omega) (by simp;omega)
  have nf:¬ (false=true):=by decide
  have pt:(true=true):=rfl;unfold Ql;cases cmpI .neq f.root r with
  | true=>rw[Kc pt,Kc pt,aM];rfl
  |false=>
   rw[Kd nf,Kd nf];by_cases hpk:f.pkg=p
   ·rw[Kc (ab hpk),Kc hpk,happ,happ];cases f.init <;> rfl
   ·rw[Kd (by simp[hpk]),Kd hpk,zfG hsm.shop (by omega),Kb,hp,Bool.and_true];cases hu:zm f.pkg&&under f.pkg p with
    | false=>rw[Kd nf,Kd nf,aM];rfl
    |true=>rw[af] at hu;have hnl:=yp hu.1;have hbl:=zer f.pkg p;obtain⟨a,b,hc⟩:=Cut_eq (s:=below f.pkg p) (by omega);have hfl:=(zcR f.pkg p).2;rw[Kc pt,Kc pt,below_eq (zfM hu.2 hpk) (by omega),Kb,hc,Kb];show Option.bind _ _=_;rw[JO (by show(zbw f.pkg p).l.length+1<=_;omega),Kb,happ];rfl
 rw[hl,Kb,sorted_eq (by omega),Kb]
theorem zdP(h:zf s=true):zm s=decide (s≠(⟨[]⟩:Str)):=by
 unfold zf at h;by_cases he:s=emptyS
 ·rw[he,qN];rfl
 ·have:zm s=true:=by simpa[he] using h
  rw[this];exact(ab he).symm
theorem zfN(h:z9 f=true)(hi:f.init=false):f.name≠⟨[]⟩:=by
 unfold z9 at h;split at h
 ·cases h
 ·rw[hi,Kd (by decide),af] at h;have:=(wt h.1).1;intro e;rw[e] at this;simp at this
theorem listing_eq(ht:wR t)(hv:yh t=true)(hp:zf p=true):Wn t r p=some (Jc (t.files.flatMap (Ql r p))):=by
 unfold Wn;have hlen:=YB hv;have hpl:=zV hp;have hl:zE (λ s5=>jB t r p s5) ([],(0:Int))=some ((t.files.flatMap (Ql r p)).foldl jO []):=by
  refine YA t.files.length (λ k=>(((t.files.take k).flatMap _).foldl jO [],(k:Int))) (λ k hk=>?_) (by unfold jB;simp only;rw[zx,Kd (by simp),aL]) (by omega) Z;obtain⟨f,hf,hm⟩:=jN hk;have h1:=zdO r p (t.files.take k);have h2:=insertAll_len ((t.files.take k).flatMap (Ql r p)) [];rw[aI] at h1;rw[cL] at h2;have hsm:=ht.2 f hm;have hvf:=jw hv hm;have hvp:=jU hvf;rw[rows_next hf,List.foldl_append];unfold jB;simp only;rw[zx,Kc (ab hk),zz,hf,Kb,zG (by omega)];generalize ((t.files.take k).flatMap _).foldl jO []=out at h2 ⊢;have hins:∀ x:Str,YG out x=some _:=λ x=>Kc (by omega)
  have nf:¬ (false=true):=by decide
  have pt:(true=true):=rfl;unfold Ql;cases cmpI .neq f.root r with
  | true=>rw[Kc pt,Kc pt];rfl
  |false=>
   rw[Kd nf,Kd nf];by_cases hpk:f.pkg=p
   ·rw[ab hpk,Kc hpk];cases hi:f.init with
    | true=>rw[show(true&&true)=true from Z,Kc pt,Kc pt,Kb,Kc (show decide _=true from Z),hins];rfl
    |false=>rw[show(true&&false)=false from Z,Kd nf,Kd nf,Kc pt,Kb,Kc (ab (zfN hvf hi)),hins];rfl
   ·rw[cO hpk,Kd hpk,show(false&&f.init)=false from Z,Kd nf,Kd nf,zdP hvp,show We f.pkg p=some _ from Kc (by omega)];cases he:decide (f.pkg≠_) with
    | false=>rfl
    |true=>
     rw[show((true:Bool) == true)=true from Z,wr,Kb,br];cases hu:under f.pkg p with
     | false=>rfl
     |true=>have hnl:=zV hvp;have hfl:=(zcR f.pkg p).2;rw[Kc pt,Kc pt,firstBelow_eq (zfM hu hpk) (by omega),Kb,JO (by show(zbw f.pkg p).l.length+1<=_;omega),Kb,Kb,Kc (by simp),hins];rfl
 rw[hl];show some _=_
 congr 1
 refine asc_ext (insertAll_asc List.Pairwise.nil) (zdH _).1 λ x=>?_
 rw[insertAll_iff,(zdH _).2];simp
def dirK(l:List Dir)(r:Int)(p:Str):Option Nat:=l.findIdx? (JE r p)
theorem zbQ{d:Dir}:JE r p d=true ↔ d.root=r/\d.pkg=p:=by simp[JE,cmpI]
theorem X4(h:dirK l r p=some k):k<l.length/\l[k]?=some (l.getD k default)/\(l.getD k default).root=r/\(l.getD k default).pkg=p:=by
 obtain⟨hk,h1,_⟩:=aO.1 h;have e:l.getD k default=l[k]:=by simp[aa hk]
 rw[e];exact⟨hk,aa hk,zbQ.1 h1⟩
theorem dirK_none(h:dirK l r p=none):∀ x∈l,¬ (x.root=r/\x.pkg=p):=λ x hx hk=>by
 have:=bD.1 h x hx;rw[zbQ.2 hk] at this;cases this
def zaB(d:Disk)(r:Int)(p:Str):Int:=match dirK d.dirs r p with | some k=>(d.dirs.getD k default).stamp | none=>0
def listL(t:Tree)(r:Int)(p:Str):List Str:=Jc (t.files.flatMap (Ql r p))
def upI(n:Int):Int:=if n+1<=1000 then n+1 else 1000
def zbx(d:Disk)(r:Int)(p:Str):Dir:=⟨r,p,zaB d r p,listL d.tree r p⟩
def qE(f:Finder)(d:Disk)(r:Int)(p:Str):Finder×List Str:=
 match dirK f.dirs r p with
 |some k=>if(f.dirs.getD k default).stamp=zaB d r p then(⟨f.dirs,f.fills,upI f.hits⟩,(f.dirs.getD k default).names)
  else(⟨f.dirs.set k (zbx d r p),upI f.fills,f.hits⟩,listL d.tree r p)
 | none=>(⟨if f.dirs.length<20 then f.dirs++[zbx d r p] else f.dirs,upI f.fills,f.hits⟩,listL d.tree r p)
def mark(s:Str):Str:=⟨s.l++[47]⟩
def xW(d:Disk)(p s:Str):Finder->List Int->List Int->Finder×Spec
 | f,acc,[]=>(f,if cmpI .gtr acc.length 0=true then⟨3,-1,acc⟩ else noSpec)
 |f,acc,r::rs=>
  if(jg (qE f d r p).2 (mark s)&&cmpI .geq (qF d.tree.files ⟨r,child p s,⟨[]⟩,true,0,[]⟩) 0)=true then((qE f d r p).1,⟨2,qF d.tree.files ⟨r,child p s,⟨[]⟩,true,0,[]⟩,[r]⟩)
  else if(jg (qE f d r p).2 s&&cmpI .geq (qF d.tree.files ⟨r,p,s,false,0,[]⟩) 0)=true then((qE f d r p).1,⟨1,qF d.tree.files ⟨r,p,s,false,0,[]⟩,[]⟩)
  else xW d p s (qE f d r p).1 (if(jg (qE f d r p).2 (mark s)&&QI d.tree.files r (child p s))=true then acc++[r] else acc) rs
def DirsOk(l:List Dir):Prop:=l.length<=20/\(∀ x∈l,inR x.root 0 2=true/\zf x.pkg=true/\inR x.stamp 0 200=true/\x.names.length<=12)/\(∀ (i j:Nat) (x y:Dir),l[i]?=some x->l[j]?=some y->i<j->¬ (x.root=y.root/\x.pkg=y.pkg))
theorem zeM:Z9 200 12 l=true ↔ DirsOk l:=by
 have key:∀ (k:Nat) (d:Dir),l[k]?=some d->(Jz 200 12 l k=true ↔ (inR d.root 0 2=true/\zf d.pkg=true/\inR d.stamp 0 200=true/\d.names.length<=12)/\∀ (i:Nat) (x:Dir),l[i]?=some x->i<k->¬ (x.root=d.root/\x.pkg=d.pkg)):=by
  intro k d hd;unfold Jz;rw[hd];simp only[cw,Bool.or_eq_false_iff,dL,bW];constructor
  ·rintro ⟨⟨⟨⟨a1,a2⟩,a3⟩,a4⟩,a5⟩
   refine⟨⟨a1,a2,a3,?_⟩,λ i x hx hi he=>?_⟩
   ·simp[cmpI] at a4;omega
   ·refine a5 x ?_ (zbQ.2 he);have:(l.take k)[i]?=some x:=by rw[aE,Kc hi,hx]
    exact ac this
  ·rintro ⟨⟨a1,a2,a3,a4⟩,a5⟩
   refine⟨⟨⟨⟨a1,a2⟩,a3⟩,by simp[cmpI];omega⟩,λ x hx he=>?_⟩;obtain⟨i,hi⟩:=aN hx;have hik:i<k:=by have:=zJ hi;simp at this;omega
   rw[aE,Kc hik] at hi;exact a5 i x hi hik (zbQ.1 he)
 unfold Z9 DirsOk;rw[af,al];constructor
 ·rintro ⟨h1,h2⟩
  refine⟨by simp[cmpI] at h2;omega,λ x hx=>?_,λ i j x y hx hy hij=>?_⟩
  ·obtain⟨k,hk⟩:=aN hx;exact((key k x hk).1 (h1 k (az.2 (zJ hk)))).1
  ·exact((key j y hy).1 (h1 j (az.2 (zJ hy)))).2 i x hx hij
 ·rintro ⟨h1,h2,h3⟩
  refine⟨λ k hk=>?_,by simp[cmpI];omega⟩;obtain⟨d,hd,hm⟩:=jN (az.1 hk);exact(key k d hd).2 ⟨h2 d hm,λ i x hx hi=>h3 i k x d hx hd hi⟩
def FindOk(f:Finder):Prop:=DirsOk f.dirs/\inR f.fills 0 1000=true/\inR f.hits 0 1000=true
theorem finderFit_iff{f:Finder}:finderFit f=true ↔ FindOk f:=by
 unfold finderFit FindOk;rw[af,af,zeM,and_assoc]
structure DiskOk(d:Disk):Prop where
 tree:yh d.tree=true
 clock:0<=d.clock/\d.clock<=200
 dirs:Z9 d.clock 0 d.dirs=true
theorem diskFit_ok(h:Wy d=true):DiskOk d:=by
 unfold Wy at h;rw[af,af] at h;have:=h.1.2;unfold inR at this;rw[af] at this;exact⟨h.1.1,⟨oD this.1,oD this.2⟩,h.2⟩
theorem DiskOk.ok(h:DiskOk d):DirsOk d.dirs:=by
 have h1:=h.dirs;rw[Jd (by unfold inR;simp[cmpI];exact h.clock),af] at h1;exact zeM.1 h1.2
theorem upI_in{n:Int}(h:inR n 0 1000=true):inR (upI n) 0 1000=true:=by
 unfold inR upI at*;rw[af] at*;have h1:=oD h.1;split
 ·exact⟨ab (by omega),ab (by assumption)⟩
 ·exact⟨by decide,by decide⟩
theorem stampL_in(h:DiskOk d)(r:Int)(p:Str):inR (zaB d r p) 0 200=true:=by
 unfold zaB;cases hk:dirK d.dirs r p with
 | none=>exact(by decide:inR 0 0 200=true)
 |some k=>obtain⟨_,h2,_⟩:=X4 hk;exact(h.ok.2.1 _ (ac h2)).2.2.1
theorem listL_len(h:yh t=true)(r:Int)(p:Str):(listL t r p).length<=12:=by
 have h1:=zeK (t.files.flatMap (Ql r p));have h2:=zdO r p t.files;have h3:=YB h;unfold listL;omega
theorem fill_ok{f:Finder}(hf:FindOk f)(hd:DiskOk d)(hr:inR r 0 2=true)(hp:zf p=true):FindOk (qE f d r p).1:=by
 obtain⟨⟨h1,h2,h3⟩,h4,h5⟩:=hf;have hx:inR (zbx d r p).root 0 2=true/\zf (zbx d r p).pkg=true/\inR (zbx d r p).stamp 0 200=true/\(zbx d r p).names.length<=12:=⟨hr,hp,stampL_in hd r p,listL_len hd.tree r p⟩;unfold qE;cases hk:dirK f.dirs r p with
 |some k=>
  obtain⟨k1,k2,k3,k4⟩:=X4 hk;simp only;split
  ·exact⟨⟨h1,h2,h3⟩,h4,upI_in h5⟩
  ·have hget:∀ (i:Nat) (x:Dir),(f.dirs.set k (zbx d r p))[i]?=some x->∃ y:Dir,f.dirs[i]?=some y/\x.root=y.root/\x.pkg=y.pkg:=λ i x hi=>by
    by_cases e:k=i
    ·subst e;rw[aU k1] at hi;injection hi with hi;subst hi;exact⟨_,k2,k3.symm,k4.symm⟩
    ·rw[ba e] at hi;exact⟨x,hi,Z,Z⟩
   refine⟨⟨by simpa using h1,λ x hm=>?_,λ i j x y hi hj hij he=>?_⟩,upI_in h4,h5⟩
   ·rcases cx hm with hm | rfl
    ·exact h2 x hm
    ·exact hx
   ·obtain⟨x',a1,a2,a3⟩:=hget i x hi;obtain⟨y',b1,b2,b3⟩:=hget j y hj;exact h3 i j x' y' a1 b1 hij ⟨by rw[← a2,← b2];exact he.1,by rw[← a3,← b3];exact he.2⟩
 |none=>
  have hno:=dirK_none hk;refine⟨?_,upI_in h4,h5⟩;show DirsOk (if f.dirs.length<20 then f.dirs++[zbx d r p] else f.dirs);split
  ·refine⟨by simp;omega,λ x hm=>?_,λ i j x y hi hj hij he=>?_⟩
   ·rcases bb.1 hm with hm | hm
    ·exact h2 x hm
    ·rw[aF.1 hm];exact hx
   ·have hjl:=zJ hj;simp at hjl;rw[aK (by omega)] at hi;by_cases e:j<f.dirs.length
    ·rw[aK e] at hj;exact h3 i j x y hi hj hij he
    ·have e2:j=f.dirs.length:=by omega
     subst e2;rw[aH (ak _)] at hj;simp only[ct,List.getElem?_cons_zero] at hj;injection hj with hj;subst hj;exact hno x (ac hi) he
  ·exact⟨h1,h2,h3⟩
theorem runK_ok{d:Disk}(hd:DiskOk d){p s:Str}(hp:zf p=true):∀ (rs acc:List Int) (f:Finder),FindOk f->(∀ r∈rs,inR r 0 2=true)->(∀ r∈acc,inR r 0 2=true)->FindOk (xW d p s f acc rs).1/\∀ r∈(xW d p s f acc rs).2.roots,inR r 0 2=true
 |[],acc,f,h,_,ha=>by
  unfold xW;refine⟨h,?_⟩;simp only;split
  ·exact ha
  ·intro r hr;cases hr
 |r::rs,acc,f,h,hr,ha=>by
  have h1:=fill_ok h hd (hr r (by simp)) hp;unfold xW;split
  ·exact⟨h1,λ x hx=>by rw[aF.1 hx];exact hr r (by simp)⟩
  ·split
   ·exact⟨h1,λ x hx=>by cases hx⟩
   ·refine runK_ok hd hp rs _ _ h1 (λ x hx=>hr x (by simp[hx])) λ x hx=>?_
    split at hx
    ·rcases bb.1 hx with hx | hx
     ·exact ha x hx
     ·rw[aF.1 hx];exact hr r (by simp)
    ·exact ha x hx
theorem path_in(h:we path=true):∀ r∈path,inR r 0 2=true:=λ r hr=>by
 unfold we QJ at h;rw[al] at h;obtain⟨k,hk⟩:=aN hr;have:=h k (az.2 (zJ hk));unfold za3 at this;rw[hk] at this;simp only at this;cases hi:inR r 0 2 with
 | true=>rfl
 | false=>rw[hi] at this;simp at this
theorem idxOf_get{p:α->Bool}{l:List α}(h:cmpI .geq (xk p l) 0=true):∃ k x,xk p l=((k:Nat):Int)/\l[k]?=some x/\p x=true:=by
 unfold xk at h ⊢;cases hk:l.findIdx? p with
 | none=>rw[hk] at h;exact absurd h (by decide:¬ cmpI .geq _ 0=true)
 |some k=>obtain⟨h1,h2,_⟩:=aO.1 hk;exact⟨k,l[k],Z,aa h1,h2⟩
def tells(t:Tree)(n:Str)(out:Spec):Prop:=out.file<0\/∃ k f,out.file=((k:Nat):Int)/\t.files[k]?=some f/\y9 f=n
theorem zfO{d:Disk}{p s:Str}:∀ (rs acc:List Int) (f:Finder),tells d.tree (child p s) (xW d p s f acc rs).2
 |[],acc,f=>by
  unfold xW;simp only;split
  ·exact .inl (by show(-1:Int)<0;decide)
  ·exact .inl (by decide)
 |r::rs,acc,f=>by
  unfold xW;split
  ·rename_i hc;rw[af] at hc;obtain⟨k,x,h1,h2,h3⟩:=idxOf_get hc.2;unfold wd at h3;simp only[af,beq_iff_eq,bt] at h3;refine .inr ⟨k,x,h1,h2,?_⟩;unfold y9;rw[h3.1.2];exact h3.1.1.2
  ·split
   ·rename_i hc;rw[af] at hc;obtain⟨k,x,h1,h2,h3⟩:=idxOf_get hc.2;unfold wd at h3;simp only[af,beq_iff_eq,bt] at h3;refine .inr ⟨k,x,h1,h2,?_⟩;unfold y9;rw[h3.1.2,h3.1.1.2,h3.2];rfl
   ·exact zfO rs _ _
theorem has_any(l:List Str)(x:Str):jg l x=l.any λ y=>decide (y=x):=by
 unfold jg textAt;rw[Ww]
theorem has_spec{l:List Str}{x:Str}(h:l.length<=1048576):ZG l x=some (jg l x):=by
 unfold ZG WZ;have hl:zE (λ s4=>ZF l x s4) 0=some (match l.findIdx? (λ y=>decide (y=x)) with | some i=>(Sum.inr (i:Int):Unit⊕Int) | none=>Sum.inl ()):=by
  refine Yn l (λ y=>decide _) (λ i=>Sum.inr i) _ (λ k y hx hlt=>?_) ?_ (by omega) Z
  ·unfold ZF;rw[zx,Kc (ab hlt),zz,hx,Kb,zG (by omega)];cases decide (y=x) <;> rfl
  ·unfold ZF;rw[zx,Kd (by simp)]
 have e:Option.bind (zE (λ s4=>ZF l x s4) 0) (Sum.elim (λ _=>some (-1)) some)=some (xk (λ y=>decide (y=x)) l):=by
  rw[hl];unfold xk;cases l.findIdx? (λ y=>decide (y=x)) <;> rfl
 rw[e,Kb];rfl
theorem has_impl{l:List Str}{x:Str}(h:l.length<=1048576):zP l x=some (jg l x):=by
 unfold zP xe;have hl:zE (λ s4=>zW l x s4) 0=some (match l.findIdx? (λ y=>decide (x=y)) with | some i=>(Sum.inr (i:Int):Unit⊕Int) | none=>Sum.inl ()):=by
  refine Yn l (λ y=>decide _) (λ i=>Sum.inr i) _ (λ k y hx hlt=>?_) ?_ (by omega) Z
  ·unfold zW;rw[zx,Kc (ab hlt),zz,hx,Kb,zG (by omega)];cases decide (x=y) <;> rfl
  ·unfold zW;rw[zx,Kd (by simp)]
 have e:Option.bind (zE (λ s4=>zW l x s4) 0) (Sum.elim (λ _=>some (-1)) some)=some (xk (λ y=>decide (x=y)) l):=by
  rw[hl];unfold xk;cases l.findIdx? (λ y=>decide (x=y)) <;> rfl
 rw[e,Kb,Ww,has_any]
 grind
theorem zby(l:List Dir)(r:Int)(p:Str):xk (JE r p) l=match dirK l r p with | some i=>((i:Nat):Int) | none=>-1:=rfl
theorem DirsOk.sm(h:DirsOk l):l.length<=1048576:=by have:=h.1;omega
theorem FindOk.sm{f:Finder}(h:FindOk f):f.dirs.length<=1048576:=h.1.sm
theorem DiskOk.sm{d:Disk}(h:DiskOk d):d.dirs.length<=1048576:=h.ok.sm
theorem QW{n a b:Int}(h:inR n a b=true):a<=n/\n<=b:=by
 unfold inR at h;rw[af] at h;exact⟨oD h.1,oD h.2⟩
theorem stampL_eq(h:d.dirs.length<=1048576):YW d r p=some (zaB d r p)/\YZ d r p=some (zaB d r p):=by
 unfold YW YZ;rw[zdM h,zag h,Kb,zby];unfold zaB;cases hk:dirK d.dirs r p with
 | none=>exact⟨Z,Z⟩
 |some k=>
  obtain⟨_,h2,_⟩:=X4 hk;have hc:cmpI .lss ((k:Nat):Int) 0=false:=by simp[cmpI]
  simp only;rw[hc,Kd (by decide),zz,h2];exact⟨Z,Z⟩
theorem upI_a{n:Int}:(if(1000:Int)<n+1 then(1000:Int) else n+1)=upI n:=by unfold upI;split <;> split <;> omega
theorem upI_b{n:Int}:(if n+1<(1000:Int) then n+1 else(1000:Int))=upI n:=by unfold upI;split <;> split <;> omega
theorem zfP{f:Finder}(hf:FindOk f)(hd:DiskOk d)(r:Int)(p:Str):(qE f d r p).2.length<=12:=by
 have hl:=listL_len hd.tree r p;unfold qE;cases hk:dirK f.dirs r p with
 | none=>exact hl
 |some k=>
  obtain⟨_,h2,_⟩:=X4 hk;simp only;split
  ·exact(hf.1.2.1 _ (ac h2)).2.2.2
  ·exact hl
section
variable{f:Finder}
theorem ask_eq(hf:FindOk f)(hd:DiskOk d)(ht:wR d.tree)(hp:zf p=true):YI f d r p=some (qE f d r p):=by
 have hfl:=hf.1.1;have hfi:=QW hf.2.1;have hhi:=QW hf.2.2;unfold YI;rw[(stampL_eq hd.sm).1,Kb,zdM hf.sm,Kb,zby,xb (by omega) (by omega),xb (by omega) (by omega),listDir_eq ht hd.tree hp];simp only[Kb,upI_a];unfold qE;cases hk:dirK f.dirs r p with
 |none=>
  simp only;rw[show cmpI .geq _ 0=false from Z,show((false:Bool) == true)=false from Z,Zd,Kb,cl,Kd (by decide),Kd (by decide)];by_cases hl:f.dirs.length<20
  ·rw[Kc (by simp[cmpI];omega),yk (by simp;omega) (by simp;omega),Kc hl];rfl
  ·rw[Kd (by simp[cmpI];omega),Kd hl];rfl
 |some k=>
  obtain⟨h1,h2,h3,h4⟩:=X4 hk;have hc:cmpI .geq ((k:Nat):Int) 0=true:=by simp[cmpI]
  simp only;rw[hc,show((true:Bool) == true)=true from Z,wr,zz,h2,Kb,br];generalize f.dirs.getD k default=x at h2 h3 h4 ⊢;by_cases hs:x.stamp=zaB d r p
  ·rw[Kc (by simp[cmpI,hs]),Kc hs,Kb]
  ·rw[Kd (by simp[cmpI,hs]),Kd hs,Kc Z];rfl
theorem filled_eq(hf:FindOk f)(hd:DiskOk d)(ht:wR d.tree)(hp:zf p=true):W8 f d r p=some (qE f d r p):=by
 have hfl:=hf.1.1;have hfi:=QW hf.2.1;have hhi:=QW hf.2.2;unfold W8;rw[(stampL_eq hd.sm).2,zag hf.sm,Kb,zby,Kb,xb (by omega) (by omega),xb (by omega) (by omega),listing_eq ht hd.tree hp];simp only[Kb,upI_b];unfold qE;cases hk:dirK f.dirs r p with
 |none=>
  simp only;rw[show cmpI .geq _ 0=false from Z,show((false:Bool) == true)=false from Z,Zd,Kb,cl,Kd (by decide),Kd (by decide)];by_cases hl:f.dirs.length<20
  ·rw[Kc (by simp[cmpI];omega),yk (by simp;omega) (by simp;omega),Kc hl];rfl
  ·rw[Kd (by simp[cmpI];omega),Kd hl];rfl
 |some k=>
  obtain⟨h1,h2,h3,h4⟩:=X4 hk;have hc:cmpI .geq ((k:Nat):Int) 0=true:=by simp[cmpI]
  simp only;rw[hc,show((true:Bool) == true)=true from Z,wr,zz,h2,Kb,br];generalize f.dirs.getD k default=x at h2 h3 h4 ⊢;by_cases hs:x.stamp=zaB d r p
  ·rw[Kc (by simp[cmpI,hs]),Kc hs,Kb]
  ·rw[Kd (by simp[cmpI,hs]),Kd hs,Kc Z];rfl
end
def Qz(d:Disk)(p s:Str){β:Type}(out:Finder×Spec->β)(σ:Finder×List Int)(r:Int):(Finder×List Int)⊕β:=
 if(jg (qE σ.1 d r p).2 (mark s)&&cmpI .geq (qF d.tree.files ⟨r,child p s,⟨[]⟩,true,0,[]⟩) 0)=true then .inr (out ((qE σ.1 d r p).1,⟨2,qF d.tree.files ⟨r,child p s,⟨[]⟩,true,0,[]⟩,[r]⟩))
 else if(jg (qE σ.1 d r p).2 s&&cmpI .geq (qF d.tree.files ⟨r,p,s,false,0,[]⟩) 0)=true then .inr (out ((qE σ.1 d r p).1,⟨1,qF d.tree.files ⟨r,p,s,false,0,[]⟩,[]⟩))
 else .inl ((qE σ.1 d r p).1,if(jg (qE σ.1 d r p).2 (mark s)&&QI d.tree.files r (child p s))=true then σ.2++[r] else σ.2)
theorem runL_K(out:Finder×Spec->β)(fin:Finder×List Int->β)(E:β->γ)(F:Finder×Spec->γ)(h1:∀ q,E (out q)=F q)(h2:∀ σ:Finder×List Int,E (fin σ)=F (σ.1,if cmpI .gtr σ.2.length 0=true then⟨3,-1,σ.2⟩ else noSpec)):
  ∀ (rs:List Int) (k:Nat) (f:Finder) (acc:List Int),E (runL (λ _ σ r=>Qz d p s out σ r) fin k (f,acc) rs)=F (xW d p s f acc rs):=by
 intro rs
 induction rs with
 | nil=>intro k f acc;unfold xW;rw[runL];exact h2 _
 |cons r rs ih=>
  intro k f acc;unfold xW;rw[runL];unfold Qz;simp only;cases(jg (qE f d r p).2 _&&cmpI .geq _ 0) with
  | true=>exact h1 _
  |false=>
   cases(jg (qE f d r p).2 s&&cmpI .geq _ 0) with
   | true=>exact h1 _
   | false=>exact ih _ _ _
section
variable{f:Finder}
theorem seenIn_eq(hf:FindOk f)(hd:DiskOk d)(ht:wR d.tree)(hr:roots.length<=1048576)(hin:∀ r∈roots,inR r 0 2=true)(hp:zf p=true)(hs:zF s=true)(hc:zm (child p s)=true):W9 f d roots p s=some (xW d p s f [] roots):=by
 have hpl:=zV hp;have hsl:=(wt hs).2;have hcl:=yp hc;have hch:xZ p s=some _:=Kc (by omega);have hfa:∀ g,Yr d.tree g=some _:=λ g=>Kc trivial
 have hhd:∀ r,Xv d.tree r (child p s)=some _:=λ r=>Kc (by omega)
 unfold W9;have hl:zE (λ a8=>jd d roots p s a8) (f,yZ,XX,[],(0:Int))=some (runL (λ _ σ r=>Qz d p s (Sum.inr) σ r) (λ σ=>Sum.inl (σ.1,yZ,XX,σ.2)) 0 (f,[]) roots):=by
  refine zbq (σ:=Finder×List Int) roots (λ σ k=>(σ.1,yZ,XX,σ.2,(k:Int))) _ _ (λ k σ=>FindOk σ.1/\σ.2.length<=k) (λ k σ r hx hlt hi=>?_) (λ σ _=>?_) (s0:=(f,[])) ⟨hf,ak 0⟩ (by omega)
  ·obtain⟨hfo,hal⟩:=hi;have hri:=hin r (ac hx);have hfo2:=fill_ok hfo hd hri hp;have hnl:=zfP hfo hd r p;have hst:jd d roots p s (σ.1,yZ,XX,σ.2,(k:Int))=(match Qz d p s (Sum.inr) σ r with
     | .inl σ'=>some (.inl (σ'.1,yZ,XX,σ'.2,((k+1:Nat):Int))) | .inr b=>some (.inr b)):=by
    unfold jd;dsimp only;have hcat:catO s ⟨[47]⟩=some (mark s):=JO (by show s.l.length+1<=_;omega);have happ:appO 8 σ.2 [r]=some _:=yk (by simp;omega) (by simp;omega);have hn2:(qE σ.1 d r p).2.length<=1048576:=by omega
    rw[zx,Kc (ab hlt),zz,hx,Kb,filled_eq hfo hd ht hp,Kb,hcat,Kb,has_spec hn2,Kb,Kb,hch,Kb,hfa,Kb,Kb,Kb,hfa,Kb,has_spec hn2,Kb,zG (by omega)];unfold Qz;generalize jg (qE σ.1 d r p).2 _=b0;generalize jg (qE σ.1 d r p).2 s=b3;generalize cmpI .geq _ 0=b1;generalize cmpI .geq _ 0=b2;cases b0
    ·cases b1 <;> cases b2 <;> cases b3 <;> rfl
    ·simp[wr,hhd,happ];generalize QI d.tree.files r _=b4;cases b1 <;> cases b2 <;> cases b3 <;> cases b4 <;> rfl
   rw[hst];have hinv:∀ σ',Qz d p s (Sum.inr (α:=Finder×Finder×Spec×List Int)) σ r=.inl σ'->FindOk σ'.1/\σ'.2.length<=k+1:=λ σ' h=>by
    unfold Qz at h;split at h
    ·cases h
    ·split at h
     ·cases h
     ·injection h with h;subst h;refine⟨hfo2,?_⟩;dsimp only;split
      ·simp;omega
      ·omega
   cases hsk:Qz d p s _ σ r with
   | inl σ'=>exact⟨Z,hinv σ' hsk⟩
   | inr b=>rfl
  ·unfold jd;dsimp only;rw[zx,Kd (by simp)]
 rw[hl,Kb];exact runL_K _ (λ σ=>Sum.inl _) _ some (λ _=>Z) (λ σ=>by
  simp;split <;> rfl) roots 0 f []
end
theorem runK_rlen{d:Disk}{p s:Str}:∀ (rs acc:List Int) (f:Finder),(xW d p s f acc rs).2.roots.length<=acc.length+rs.length
 |[],acc,f=>by
  unfold xW;dsimp only;split
  ·exact ak _
  ·exact ao _
 |r::rs,acc,f=>by
  unfold xW;split
  ·show 1<=acc.length+(rs.length+1);omega
  ·split
   ·exact ao _
   ·refine aQ (runK_rlen rs _ _) ?_;split
    ·simp only[ap,bj,cL];omega
    ·simp only[bj];omega
section
variable{f:Finder}{n:Str}
end
theorem zdQ(h:Y6 l):ZO l=some l:=by
 have hlen:=h.1;unfold ZO;have hl:zE (λ s6=>wJ l s6) ([],(0:Int))=some l:=by
  refine YA l.length (λ k=>(l.take k,(k:Int))) (λ k hk=>?_) (by unfold wJ;dsimp only;rw[zx,Kd (by simp),aL]) (by omega) Z;obtain⟨x,hx,hm⟩:=jN hk;have hnl:=(h.2 x hm).2;have htk:(l.take k).length<=k:=by simp;omega
  unfold wJ;dsimp only;rw[zx,Kc (ab hk),zz,hx,Kb,yk (by simp;omega) (by simp;omega),Kb,yk (by simp;omega) (by simp;omega),Kb,zG (by omega),Kb,be,hx];rfl
 grind
theorem QA(h:Y6 l):Yh l=some l:=by
 have hlen:=h.1;unfold Yh;have hl:zE (λ s6=>jc l s6) ([],(0:Int))=some l:=by
  refine YA l.length (λ k=>(l.take k,(k:Int))) (λ k hk=>?_) (by unfold jc;dsimp only;rw[zx,Kd (by simp),aL]) (by omega) Z;obtain⟨x,hx,hm⟩:=jN hk;have hnl:=(h.2 x hm).2;have htk:(l.take k).length<=k:=by simp;omega
  unfold jc;dsimp only;rw[zx,Kc (ab hk),zz,hx,Kb,yk (by simp;omega) (by simp;omega),Kb,yk (by simp;omega) (by simp;omega),Kb,zG (by omega),Kb,be,hx];rfl
 grind
theorem DirsOk.smd(h:DirsOk l):Y6 l:=⟨h.sm,λ x hx=>by
 obtain⟨_,h2,_,h4⟩:=h.2.1 x hx;have:=zV h2;exact⟨by omega,by omega⟩⟩
theorem nodup_le{α:Type}[DecidableEq α]:∀ {l m:List α},l.Nodup->(∀ x∈l,x∈m)->l.length<=m.length
 | [],_,_,_=>ao _
 |x::l,m,hn,hs=>by
  rw[eb] at hn;have hx:=hs x (bK ..);have h1:=nodup_le (l:=l) (m:=m.erase x) hn.2 λ y hy=>(List.mem_erase_of_ne (by intro e;subst e;exact hn.1 hy)).2 (hs y (bM _ hy))
  have h2:=List.length_erase_of_mem hx;have h3:=List.length_pos_of_mem hx;rw[bj];omega
theorem validPath_len(h:we path=true):path.length<=3:=by
 have h1:=path_in h;have hnd:path.Nodup:=by
  refine dd.2 λ i j hi hj hij=>?_
  unfold we QJ at h;rw[al] at h;have:=h j (az.2 hj);unfold za3 at this;rw[aa hj] at this;simp at this;have h3:=this.2;unfold intAt at h3;rw[Ww,bW] at h3;intro e;refine h3 path[j] ?_ (by simp);rw[← e];exact ci.2 ⟨i,by omega,Z⟩
 have hsub:∀ x∈path,x∈([0,1,2]:List Int):=λ x hx=>by
  have:=QW (h1 x hx);have:x=0\/x=1\/x=2:=by omega
  rcases this with rfl | rfl | rfl <;> simp
 have:=nodup_le hnd hsub
 grind
section
variable{f:Finder}{n:Str}
end
theorem atI_ok{l:List α}(h0:0<=i)(h:i<l.length):∃ x,atI l i=some x/\x∈l:=by
 obtain⟨n,rfl⟩:=ay h0;obtain⟨x,hx,hm⟩:=jN (l:=l) (k:=n) (by omega);exact⟨x,by rw[zz,hx],hm⟩
theorem validStmt_sm{s:Stmt}(h:zL s=true):smStmt s:=by
 have e0:∀ x:Str,decide (x=(⟨[]⟩:Str))=true->x.l.length<=3:=λ x h=>by rw[oD h];exact ao _
 have key:s.module.l.length<=11/\s.name.l.length<=3:=by
  unfold zL at h;split at h
  ·simp only[af] at h;exact⟨yp h.1.1.1,e0 _ h.1.2⟩
  ·split at h
   ·simp at h;exact⟨zV h.1.1.1.1,(wt h.1.2).2⟩
   ·split at h
    ·simp only[af] at h;exact⟨yp h.1.1.1,e0 _ h.1.2⟩
    ·split at h
     ·simp only[af] at h;exact⟨aQ (e0 _ h.1.1.1) (by decide),(wt h.1.2).2⟩
     ·split at h
      ·simp only[af] at h;exact⟨aQ (e0 _ h.1.1.1) (by decide),(wt h.1.2).2⟩
      ·split at h
       ·rw[oD h];exact⟨ao _,ao _⟩
       ·cases h
 exact⟨by omega,by omega⟩
theorem zdR(h:z9 f=true):smFile f:=by
 have h1:=zV (jU h);unfold z9 at h;split at h
 ·cases h
 ·rename_i hc;have hc:(!inR f.root 0 2||!inR f.stamp 0 99||!zf f.pkg||!zO f.body)=false:=by simpa using hc
  simp at hc;have hb:=hc.2;unfold zO at hb;rw[af,al] at hb;have hbl:f.body.length<=8:=by have:=hb.2;simp[cmpI] at this;omega
  have hn:f.name.l.length<=3:=by
   split at h
   ·rw[af] at h;rw[oD h.2];exact ao _
   ·rw[af] at h;exact(wt h.1).2
  exact⟨by omega,by omega,by omega,λ s hs=>validStmt_sm (hb.1 s hs)⟩
theorem wD(h:yh t=true):wR t:=⟨by have:=YB h;omega,λ _ hf=>zdR (jw h hf)⟩
theorem Jp(h:f.body.length<=1048576):jG f=some f:=by
 unfold jG;rw[yk (by simp;omega) (by simp;omega),Kb];rfl
theorem Jq(h:wR t):qK t=some t:=by
 have hlen:=h.1;unfold qK;have hl:zE (λ a8=>ja t a8) ((⟨[]⟩:Tree),(0:Int))=some t:=by
  refine YA t.files.length (λ k=>((⟨t.files.take k⟩:Tree),(k:Int))) (λ k hk=>?_) (by unfold ja;dsimp only;rw[zx,Kd (by simp),aL]) (by omega) Z;obtain⟨x,hx,hm⟩:=jN hk;have hb:=(h.2 x hm).2.2.1;have htk:(t.files.take k).length<=k:=by simp;omega
  unfold ja;dsimp only;rw[zx,Kc (ab hk),zz,hx,Kb,Jp hb,Kb,yk (by simp;omega) (by simp;omega),Kb,zG (by omega),Kb,be,hx];rfl
 grind
theorem zfQ(h:wR t)(hf:smFile f)(hl:t.files.length<=1000):∃ t' b,qz t f=some (t',b)/\(b=true->yh t'=true):=by
 have h2:wR ⟨t.files++[f]⟩:=⟨by simp;omega,λ x hx=>(bb.1 hx).elim (h.2 x) λ hx=>by rw[aF.1 hx];exact hf⟩;unfold qz;rw[Jq h,Kb,Jp hf.2.2.1,Kb,yk (by simp;omega) (by simp;omega),Kb,show yn t=some _ from Kc h,Kb,show yn ⟨t.files++[f]⟩=some _ from Kc h2,zX,Kb];cases h3:yh t with
 | false=>exact⟨_,_,Z,λ h=>by cases h⟩
 |true=>
  cases h4:yh ⟨t.files++[f]⟩ with
  | false=>exact⟨_,_,Z,λ h=>by cases h⟩
  | true=>exact⟨_,_,Z,λ _=>h4⟩
theorem cut_sub{i n:Nat}{x:γ}(h:x∈(cutL ys i j).take n):x∈ys:=by
 have h:=dD h;unfold cutL at h
 grind
theorem zct(h:wR t):∃ t' b,wx t i=some (t',b)/\(b=true->wR t'/\0<=i/\i<t.files.length):=by
 have hlen:=h.1;unfold wx;rw[show yn t=some _ from Kc h,Kb,xb (by omega) (by omega),zX,Kb,xP,zX,Kb];cases h3:yh t with
 | false=>exact⟨_,_,Z,λ h=>by cases h⟩
 |true=>
  show ∃ t' b,(if(_||(!inR i 0 (_ - 1)))=true then _ else _)=some _/\_;cases h4:inR i 0 _ with
  | false=>exact⟨_,_,Z,λ h=>by cases h⟩
  |true=>
   obtain⟨h5,h6⟩:=QW h4;obtain⟨n,rfl⟩:=ay h5;have hsl:zaZ t.files ((n+1:Nat):Int)=some (t.files.drop (n+1)):=by unfold zaZ;rw[Kc ⟨by omega,by omega⟩];rfl
   rw[Kd (by decide),Jq h,Kb,JU (by omega),Kb,zG (by omega),Kb,hsl,Kb];refine⟨_,_,Z,λ _=>⟨⟨?_,λ x hx=>h.2 x (cut_sub hx)⟩,h5,by omega⟩⟩;show((cutL t.files _ _).take _).length<=_;rw[aI,zdm (by simp) (by simp;omega)];omega
theorem zfR{x:Dir}(h:Y6 l)(hl:l.length<=1000)(h1:x.pkg.l.length<=1048576)(h2:x.names.length<=1048576):Y6 (l++[x]):=
 ⟨by simp;omega,λ y hy=>(bb.1 hy).elim (h.2 y) λ hy=>by rw[aF.1 hy];exact⟨h1,h2⟩⟩
theorem zfS(h:Y6 d.dirs)(hl:d.dirs.length<=900)(hp:p.l.length<=16):∃ l,ZV d r p=some ⟨d.tree,d.clock,l⟩/\Y6 l:=by
 obtain⟨o,ho,h1,h2⟩:∃ o:List Str,(if(decide (p≠(⟨[]⟩:Str)))=true then((qR p).bind λ a9=>(appO 16 [(⟨[]⟩:Str)] a9).bind λ b3=>some b3) else(some [(⟨[]⟩:Str)]))=some o/\o.length<=20/\∀ x∈o,x.l.length<=20:=by
  have ha:=above_len p;have hs:=zel p dot;have h2:∀ x∈((⟨[]⟩:Str)::zb5 p),x.l.length<=20:=λ x hx=>by
   rcases am.1 hx with rfl | hx
   ·exact ao _
   ·have:=above_mem hx;omega
  split
  ·rw[show qR p=some _ from Kc (by unfold mid;omega),Kb,yk (by simp;omega) (by simp;omega),Kb];exact⟨_,Z,by simp;omega,h2⟩
  ·exact⟨_,Z,by simp,λ x hx=>by rw[aF.1 hx];exact ao _⟩
 unfold ZV;rw[ho,Kb];have key:∀ m k (e:Disk),k+m=o.length->e.tree=d.tree->e.clock=d.clock->Y6 e.dirs->e.dirs.length<=900+k->∃ l,jr (λ a8=>yC r o a8) (m+1) (e,(k:Int))=some ⟨d.tree,d.clock,l⟩/\Y6 l:=by
  intro m
  induction m with
  |zero=>intro k e hk h3 h4 h5 _;refine⟨e.dirs,yY ?_,h5⟩;unfold yC;dsimp only;rw[zx,Kd (by simp;omega),← h3,← h4]
  |succ m ih=>
   intro k e hk h3 h4 h5 h6;have hlt:k<o.length:=by omega
   obtain⟨x,hx,hm⟩:=jN hlt;have hxl:=h2 x hm
   suffices hs:∃ e',yC r o _=some (.inl (e',_))/\e'.tree=d.tree/\e'.clock=d.clock/\Y6 e'.dirs/\e'.dirs.length<=900+_ by
    obtain⟨e',s1,s2,s3,s4,s5⟩:=hs;rw[jD s1];exact ih (k+1) e' (by omega) s2 s3 s4 s5
   unfold yC;dsimp only;rw[zx,Kc (ab hlt),zz,hx,Kb,zag h5.1,Kb,Kb,zG (by omega),zby];cases hk2:dirK e.dirs r x with
   |none=>dsimp only;rw[Kc (by decide),yk (by simp;omega) (by simp;omega),Kb];refine⟨{ e with dirs:=e.dirs++[⟨r,x,e.clock,[]⟩] },Z,h3,h4,zfR h5 (by omega) (by show x.l.length<=_;omega) (ao _),?_⟩;simp;omega
   |some j=>
    obtain⟨g1,g2,_,_⟩:=X4 hk2;have gm:=ac g2;dsimp only;rw[Kd (by simp[cmpI]),zz,g2,Kb];refine⟨{ e with dirs:=e.dirs.set j { (e.dirs.getD j default) with stamp:=e.clock } },Z,h3,h4,⟨by rw[bv];exact h5.1,λ y hy=>?_⟩,by rw[bv];omega⟩;rcases cx hy with hy | rfl
    ·exact h5.2 y hy
    ·have:=h5.2 _ gm;exact this
 obtain⟨l,e1,e2⟩:=key o.length 0 d (by omega) Z Z h (by omega);have hl2:zE (λ a8=>yC r o a8) (d,(0:Int))=some ⟨d.tree,d.clock,l⟩:=Z1 e1 (by omega)
 grind
theorem DiskOk.fit(h:DiskOk d):Wy d=true:=by
 have h1:inR d.clock 0 200=true:=by unfold inR;simp[cmpI];exact h.clock
 unfold Wy;rw[h.tree,h1,h.dirs];rfl
def emptyD:Disk:=⟨⟨[]⟩,0,[]⟩
theorem emptyD_ok:DiskOk emptyD:=⟨by decide,by decide,by decide⟩
theorem emptyF_ok:FindOk ⟨[],0,0⟩:=finderFit_iff.1 (by decide)
theorem loop_same{S:Type}{f g:S->Option (S⊕β)}(P:S->Prop)(h:∀ s,P s->f s=g s)(hs:∀ s s',P s->f s=some (.inl s')->P s'){s:S}(h0:P s):zE f s=zE g s:=by
 have key:∀ n s,P s->jr f n s=jr g n s:=by
  intro n
  induction n with
  | zero=>intro s _;rfl
  |succ n ih=>
   intro s hp;have e:=h s hp;cases hf:f s with
   | none=>rw[hf] at e;simp only[jr,hf,← e]
   |some z=>
    rw[hf] at e;cases z with
    | inl s'=>rw[jD hf,jD e.symm];exact ih s' (hs s s' hp hf)
    | inr r=>rw[yY hf,yY e.symm]
 unfold zE
 grind
theorem zdS(h:f.body.length<=1048576):j9 f=some f:=by
 unfold j9 yK;rw[yk (by simp;omega) (by simp;omega),Kb,Kb];rfl
theorem zaC(h:wR t):qa t=some t:=by
 have hlen:=h.1;unfold qa;have hl:zE (λ a8=>wI t a8) ((⟨[]⟩:Tree),(0:Int))=some t:=by
  refine YA t.files.length (λ k=>((⟨t.files.take k⟩:Tree),(k:Int))) (λ k hk=>?_) (by unfold wI;dsimp only;rw[zx,Kd (by simp),aL]) (by omega) Z;obtain⟨x,hx,hm⟩:=jN hk;have hb:=(h.2 x hm).2.2.1;have htk:(t.files.take k).length<=k:=by simp;omega
  unfold wI;dsimp only;rw[zx,Kc (ab hk),zz,hx,Kb,zdS hb,Kb,yk (by simp;omega) (by simp;omega),Kb,zG (by omega),Kb,be,hx];rfl
 grind
theorem AddFile_same(h:wR t)(hf:smFile f)(hl:t.files.length<=1000):YX t f=qz t f:=by
 have h2:wR ⟨t.files++[f]⟩:=⟨by simp;omega,λ x hx=>(bb.1 hx).elim (h.2 x) λ hx=>by rw[aF.1 hx];exact hf⟩;unfold YX qz;rw[Jq h,zaC h,Kb,Kb,Jp hf.2.2.1,zdS hf.2.2.1,Kb,Kb,yk (by simp;omega) (by simp;omega),Kb,Kb,Xh h,show yn t=some _ from Kc h,Xh h2,show yn ⟨t.files++[f]⟩=some _ from Kc h2]
theorem cutL_take{i:Nat}(h1:i<=j)(h2:j<=ys.length):(cutL ys i j).take (i+(ys.length - j))=ys.take i++ys.drop j:=by
 unfold cutL
 grind
theorem ze2(h:wR t):qW t i=wx t i:=by
 have hlen:=h.1;unfold qW wx;rw[Xh h,show yn t=some _ from Kc h,Kb,Kb,xb (by omega) (by omega),zX,Kb,Kb,xP,qM,zX,Kb,Kb];cases h3:yh t with
 | false=>simp
 |true=>
  simp;cases h4:inR i 0 _ with
  | false=>rfl
  |true=>
   obtain⟨h5,h6⟩:=QW h4;obtain⟨n,rfl⟩:=ay h5;have hsl:zaZ t.files ((n+1:Nat):Int)=some (t.files.drop (n+1)):=by unfold zaZ;rw[Kc ⟨by omega,by omega⟩];rfl
   have hd:ZK t.files (n:Int) ((n+1:Nat):Int)=some (t.files.take n++t.files.drop (n+1)):=by
    unfold ZK;rw[Kc ⟨by omega,by omega,by omega⟩,Kd (by omega)];rfl
   rw[Kd (by decide),Kd (by decide),Jq h,zaC h,Kb,Kb,JU (by omega),zG (by omega),Kb,Kb,Kb,hsl,hd,Kb,Kb,yk (by simp;omega) (by simp;omega),Kb];show some _=some _;rw[cutL_take (by omega) (by omega)];rfl
theorem zfT(ho:∀ x∈o,x.l.length<=20)(hlt:k<o.length)(hk:o.length<=20)(h5:Y6 e.dirs)(h6:e.dirs.length<=900+k):
  ∃ e',xn f o (e,(k:Int))=some (.inl (e',((k+1:Nat):Int)))/\yC f.root o (e,(k:Int))=some (.inl (e',((k+1:Nat):Int)))/\Y6 e'.dirs/\e'.dirs.length<=900+(k+1):=by
 obtain⟨x,hx,hm⟩:=jN hlt;have hxl:=ho x hm;unfold xn yC;dsimp only;rw[zx,Kc (ab hlt),Kc (ab hlt),zz,hx,Kb,Kb,zdM h5.1,zag h5.1,Kb,Kb,Kb,zG (by omega),zby];cases hk2:dirK e.dirs f.root x with
 |none=>
  dsimp only;rw[Kc (by decide),Kc (by decide),yk (by simp;omega) (by simp;omega),Kb,yk (by simp;omega) (by simp;omega),Kb];refine⟨{ e with dirs:=e.dirs++[⟨f.root,x,e.clock,[]⟩] },?_,Z,zfR h5 (by omega) (by show x.l.length<=_;omega) (ao _),?_⟩
  ·dsimp only;rw[zz,aH (ak _),ct];simp
  ·simp;omega
 |some j=>
  obtain⟨g1,g2,_,_⟩:=X4 hk2;have gm:=ac g2;dsimp only;rw[Kd (by simp[cmpI]),Kd (by simp[cmpI]),Kb];dsimp only;rw[zz,g2,Kb,Kb];refine⟨{ e with dirs:=e.dirs.set j { (e.dirs.getD j default) with stamp:=e.clock } },Z,Z,⟨by rw[bv];exact h5.1,λ y hy=>?_⟩,by rw[bv];omega⟩;rcases cx hy with hy | rfl
  ·exact h5.2 y hy
  ·have:=h5.2 _ gm;exact this
theorem stamp_names(hp:zf p=true):∃ o:List Str,((jx p).bind λ a8=>appO 16 [(⟨[]⟩:Str)] a8)=some o/\(if(decide (p≠(⟨[]⟩:Str)))=true then((qR p).bind λ a9=>(appO 16 [(⟨[]⟩:Str)] a9).bind λ b3=>some b3) else(some [(⟨[]⟩:Str)]))=some o/\o.length<=20/\∀ x∈o,x.l.length<=20:=by
 have hl:=zV hp;have ha:=above_len p;have hs:=zel p dot;have h2:∀ x∈((⟨[]⟩:Str)::zb5 p),x.l.length<=20:=λ x hx=>by
  rcases am.1 hx with rfl | hx
  ·exact ao _
  ·have:=above_mem hx;omega
 rw[NamesAbove_eq (by unfold sho;omega),Kb];by_cases h0:p=⟨[]⟩
 ·subst h0;rw[Kd (by decide),Kd (by decide)];exact⟨[⟨[]⟩],by rw[yk (by simp) (by simp)];rfl,Z,by decide,λ x hx=>by rw[aF.1 hx];exact ao _⟩
 ·have hv:zm p=true:=by
   unfold zf at hp;rw[bB] at hp;exact hp.resolve_left λ h=>h0 (oD h)
  rw[Kc hv,Kc (ab h0),show qR p=some _ from Kc (by unfold mid;omega),Kb,yk (by simp;omega) (by simp;omega),Kb];exact⟨_,Z,Z,by simp;omega,h2⟩
theorem zdT(h:DiskOk d)(ht:wR t)(hp:zf f.pkg=true)(h0:0<=ticks)(h1:ticks<=200):ZP d t f ticks=qA d t f.root f.pkg ticks:=by
 have hc:=h.clock;have hl:=h.ok.1;obtain⟨o,o1,o2,o3,o4⟩:=stamp_names hp;obtain⟨l,e1,e2⟩:=zfS (d:=⟨t,d.clock+ticks,d.dirs⟩) (p:=f.pkg) h.ok.smd (by show d.dirs.length<=_;omega) (by have:=zV hp;omega);have hloop:zE (λ a8=>xn f o a8) ((⟨t,d.clock+ticks,d.dirs⟩:Disk),(0:Int))=some ⟨t,d.clock+ticks,l⟩:=by
  unfold ZV at e1;rw[o2,Kb] at e1;have hs:=loop_same (λ s=>∃ k:Nat,s.2=(k:Int)/\k<=o.length/\Y6 s.1.dirs/\s.1.dirs.length<=900+k) (λ s ⟨k,k1,k2,k3,k4⟩=>by
   obtain⟨e,i⟩:=s;subst k1;rcases aR k o.length with hlt | hge
   ·obtain⟨e',s1,s2,_⟩:=zfT (f:=f) o4 hlt o3 k3 k4;exact s1.trans s2.symm
   ·unfold xn yC;dsimp only;rw[zx,Kd (by simp;omega),Kd (by simp;omega)]) (λ s s' ⟨k,k1,k2,k3,k4⟩ hs=>by
   obtain⟨e,i⟩:=s;subst k1;rcases aR k o.length with hlt | hge
   ·obtain⟨e',s1,s2,s3,s4⟩:=zfT o4 hlt o3 k3 k4;have:=s1.symm.trans hs;injection this with this;injection this with this;subst this;exact⟨k+1,Z,hlt,s3,s4⟩
   ·unfold xn at hs;dsimp only at hs;rw[zx,Kd (by simp;omega)] at hs;cases hs) (s:=((⟨t,d.clock+ticks,d.dirs⟩:Disk),(0:Int))) ⟨0,rfl,ao _,h.ok.smd,by show d.dirs.length<=_;omega⟩
  rw[hs]
  revert e1
  cases zE (λ a9=>yC f.root o a9) _ with
  | none=>intro e1;cases e1
  | some z=>intro e1;exact e1
 unfold ZP qA;rw[Kd (by simp[cmpI];omega),xb (by omega) (by omega),Kb,Kb,zdQ h.ok.smd,QA h.ok.smd,Kb,Kb,e1,Kb];have hb:((jx f.pkg).bind λ b3=>(appO 16 [(⟨[]⟩:Str)] b3).bind λ b5=>zE (λ a8=>xn f b5 a8) ((⟨t,d.clock+ticks,d.dirs⟩:Disk),(0:Int)))=some ⟨t,d.clock+ticks,l⟩:=by
  rw[← hloop,← Option.bind_assoc,o1];rfl
 rw[hb,Kb,Xj ht e2,JQ ht e2]
theorem DiskAdd_same(h:DiskOk d)(hf:smFile f)(hp:zf f.pkg=true)(h0:0<=ticks)(h1:ticks<=200):YY d f ticks=jt d f ticks:=by
 have ht:=wD h.tree;have hl:=YB h.tree;have h3:inR ticks 0 200=true:=by unfold inR;simp[cmpI];omega
 unfold YY jt;obtain⟨t',b,e1,e2⟩:=zfQ ht hf (by omega);rw[Xj ht h.ok.smd,JQ ht h.ok.smd,h.fit,Kb,Kb,xP,zX,Kb,h3,AddFile_same ht hf (by omega),e1,Kd (by simp[cmpI];omega),Kd (by decide),Kb,Kb];cases b with
 | false=>rfl
 |true=>
  have hn:¬ (!(t',true).snd)=true:=by simp
  rw[Kd hn,Kd hn];dsimp only;rw[zdT h (wD (e2 Z)) hp h0 h1]
theorem ze3(h:DiskOk d)(h0:0<=ticks)(h1:ticks<=200):qX d i ticks=wy d i ticks:=by
 have ht:=wD h.tree;have h3:inR ticks 0 200=true:=by unfold inR;simp[cmpI];omega
 unfold qX wy;obtain⟨t',b,e1,e2⟩:=zct ht;rw[Xj ht h.ok.smd,JQ ht h.ok.smd,h.fit,Kb,Kb,xP,zX,Kb,h3,ze2 ht,e1,Kd (by simp[cmpI];omega),Kd (by decide),Kb,Kb];cases b with
 | false=>rfl
 |true=>
  obtain⟨k1,k2,k3⟩:=e2 Z;obtain⟨x,hx,hm⟩:=atI_ok k2 k3;have hn:¬ (!(t',true).snd)=true:=by simp
  rw[Kd hn,Kd hn,hx];simp;rw[zdT h k1 (jU (jw h.tree hm)) h0 h1]
def k2(f:File):File:={ f with stamp:=0,body:=[] }
theorem fileAt_k2(l:List File)(f:File):qF l f=qF (l.map k2) f:=by
 unfold qF xk;rw[List.findIdx?_map];rfl
theorem zcu{n:Nat}{x:File}(h:yh t=true)(hx:t.files[n]?=some x)(hs:inR st 0 99=true)(hb:zO b=true):yh ⟨t.files.set n { x with stamp:=st,body:=b }⟩=true:=by
 have hm:(t.files.set n { x with stamp:=st,body:=b }).map k2=t.files.map k2:=by
  apply aX;intro i;rw[aY,aY];by_cases hi:n=i
  ·subst hi;rw[aU (zJ hx),hx];rfl
  ·rw[ba hi]
 have ef:∀ f,qF (t.files.set n { x with stamp:=st,body:=b }) f=qF t.files f:=λ f=>by rw[fileAt_k2,hm,← fileAt_k2]
 unfold yh at h ⊢;rw[af] at h ⊢;dsimp only;rw[bv];refine⟨?_,h.2⟩;have h1:=h.1;unfold J5 at h1 ⊢;rw[al] at h1 ⊢;intro k hk;have h2:=h1 k hk;unfold za2 at h2 ⊢;by_cases hkn:n=k
 ·subst hkn;rw[aU (zJ hx)];rw[hx] at h2;dsimp only at h2 ⊢;rw[ef];show _=true;rw[Bool.not_or,Bool.not_not,af] at h2 ⊢;refine⟨?_,h2.2⟩;have h3:=h2.1;unfold z9 at h3 ⊢;dsimp only;rw[hs,hb];split at h3
  ·cases h3
  ·rename_i h4;rw[Kd (by
    intro h5;apply h4;simp at h5 ⊢;rcases h5 with h5 | h5
    ·exact .inl (.inl (.inl h5))
    ·exact .inl (.inr h5))]
   exact h3
 ·rw[ba hkn]
  revert h2
  cases t.files[k]? with
  | none=>exact λ h=>h
  | some g=>intro h2;dsimp only at h2 ⊢;rw[ef];exact h2
def zcv(t:Tree)(i st:Int)(b:List Stmt):Tree×Bool:=
 match (if inR i 0 ((t.files.length:Int) - 1)=true then t.files[i.toNat]? else none) with
 | some x=>(⟨t.files.set i.toNat { x with stamp:=st,body:=b }⟩,true)
 | none=>(⟨[]⟩,false)
theorem edit_both(hv:yh t=true)(hs:inR st 0 99=true)(hb:zO b=true)(hsb:yX b=some (zO b)):Yg t i st b=some (zcv t i st b)/\Yi t i st b=some (zcv t i st b):=by
 have ht:=wD hv;have hlen:=ht.1;have hbl:b.length<=8:=by
  have hb2:=hb;unfold zO at hb2;rw[af] at hb2;have:=hb2.2;simp[cmpI] at this;omega
 unfold Yg Yi zcv;rw[Xh ht,show yn t=some _ from Kc ht,Kb,Kb,xb (by omega) (by omega),zX,Kb,Kb,xP,qM,zX,Kb,Kb,xP,zX,Kb,hsb,zX,Kb,hv,hs,hb];simp;cases h4:inR i 0 _ with
 | false=>exact⟨Z,Z⟩
 |true=>
  obtain⟨h5,h6⟩:=QW h4;obtain⟨n,rfl⟩:=ay h5;have hlt:n<t.files.length:=by omega
  obtain⟨x,hx,hm⟩:=jN hlt;have hset:=zcu hv hx hs hb;have hcb:yK b=some b:=by
   unfold yK;rw[yk (by simp;omega) (by simp;omega),Kb];rfl
  rw[Kd (by decide),Kc Z,aj,hx,zaC ht,Jq ht,Kb,Kb,zz,hx,Kb,Kb,hcb,Kb,yk (by simp;omega) (by simp;omega),Kb,Xh (wD hset),hset,Kb,Kd (by decide)];exact⟨Z,Z⟩
theorem zfU{c':Int}(h:Z9 c 0 l=true)(hc:inR c 0 200=true)(hc':inR c' 0 200=true)(hle:c<=c'):Z9 c' 0 l=true:=by
 rw[Jd hc] at h;rw[Jd hc'];rw[af] at h ⊢;refine⟨?_,h.2⟩;have h1:=h.1;rw[cw,bW] at h1 ⊢;intro x hx hp;apply h1 x hx;unfold plain at hp ⊢;rw[bB] at hp ⊢;exact hp.imp (λ hp=>ab (by have:=oD hp;omega)) id
theorem editP_ok(hv:yh t=true)(hs:inR st 0 99=true)(hb:zO b=true)(h:(zcv t i st b).2=true):yh (zcv t i st b).1=true:=by
 unfold zcv at h ⊢;split at h
 ·rename_i x hx;split at hx
  ·exact zcu hv hx hs hb
  ·cases hx
 ·cases h
theorem change_same(h:DiskOk d)(hc:d.clock<=95)(h0:0<=ticks)(h1:ticks<=4)(hf:a.kind=0->smFile a.file/\zf a.file.pkg=true)(hb:a.kind≠0->a.kind≠1->zO a.file.body=true/\yX a.file.body=some (zO a.file.body)):Yt d a ticks=ji d a ticks:=by
 have hcl:=h.clock;have hmin:(if d.clock+ticks<(99:Int) then d.clock+ticks else(99:Int))=d.clock+ticks:=by split <;> omega
 unfold Yt ji;by_cases k0:a.kind=0
 ·obtain⟨f1,f2⟩:=hf k0;rw[k0,Kc (by rfl),Kc (by rfl),Jp f1.2.2.1,xb (by omega) (by omega)];simp;rw[hmin,DiskAdd_same h (f:={ a.file with stamp:=d.clock+ticks }) f1 f2 h0 (by omega)]
 ·have e0:¬ cmpI .eql a.kind 0=true:=λ e=>k0 (oD e)
  rw[Kd e0,Kd e0];by_cases k1:a.kind=1
  ·rw[k1,Kc (by rfl),Kc (by rfl),ze3 h h0 (by omega)]
  ·have e1:¬ cmpI .eql a.kind 1=true:=λ e=>k1 (oD e)
   obtain⟨b1,b2⟩:=hb k0 k1;have hs:inR (d.clock+ticks) 0 99=true:=by unfold inR;simp[cmpI];omega
   have hs2:inR (d.clock+ticks) 0 200=true:=by unfold inR;simp[cmpI];omega
   have hs3:inR d.clock 0 200=true:=by unfold inR;simp[cmpI];omega
   obtain⟨q1,q2⟩:=edit_both h.tree hs b1 b2;rw[Kd e1,Kd e1,xb (by omega) (by omega)];simp;rw[hmin,q1,q2,zdQ h.ok.smd,QA h.ok.smd];simp;cases hr:(zcv d.tree a.index _ a.file.body).2 with
   | false=>simp[gO]
   |true=>
    have ht:=editP_ok h.tree hs b1 hr;have hfit:Wy ⟨(zcv d.tree a.index (d.clock+ticks) a.file.body).1,d.clock+ticks,d.dirs⟩=true:=by
     unfold Wy;dsimp only;rw[ht,hs2,zfU h.dirs hs3 hs2 (by omega)];rfl
    rw[JQ (x:=⟨(zcv d.tree a.index _ a.file.body).1,d.clock+ticks,d.dirs⟩) (wD ht) h.ok.smd,hfit,zX];rfl
def After(d:Disk)(ticks:Int)(r:Disk×Bool):Prop:=r.2=true->DiskOk r.1/\r.1.clock=d.clock+ticks
theorem zcw(h:DiskOk d)(ht:wR t)(hp:p.l.length<=16)(h0:0<=ticks)(h1:ticks<=200):∃ z,qA d t r p ticks=some z/\After d ticks z:=by
 have hc:=h.clock;have hl:=h.ok.1;unfold qA;rw[xb (by omega) (by omega),Kb,QA h.ok.smd,Kb];obtain⟨l,e1,e2⟩:=zfS (d:=⟨t,d.clock+ticks,d.dirs⟩) h.ok.smd (by show d.dirs.length<=_;omega) hp;rw[e1,Kb,Xj ht e2,Kb];cases h3:Wy ⟨t,d.clock+ticks,l⟩ with
 | false=>exact⟨_,Z,λ h=>by cases h⟩
 | true=>exact⟨_,Z,λ _=>⟨diskFit_ok h3,Z⟩⟩
theorem add_after(h:DiskOk d)(hf:smFile f)(hp:zf f.pkg=true)(h0:0<=ticks)(h1:ticks<=200):∃ z,jt d f ticks=some z/\After d ticks z:=by
 have ht:=wD h.tree;have hl:=YB h.tree;have h3:inR ticks 0 200=true:=by unfold inR;simp[cmpI];omega
 have hpl:=zV hp;unfold jt;obtain⟨t',b,e1,e2⟩:=zfQ ht hf (by omega);rw[Xj ht h.ok.smd,h.fit,Kb,xP,zX,Kb,h3,Kd (by decide),e1,Kb];cases b with
 | false=>exact⟨_,Z,λ h=>by cases h⟩
 |true=>obtain⟨z,j1,j2⟩:=zcw (p:=f.pkg) h (wD (e2 Z)) (by omega) h0 h1;rw[Kd (show ¬ (!true)=true by decide)];dsimp only;rw[j1];exact⟨_,Z,j2⟩
theorem remove_after(h:DiskOk d)(h0:0<=ticks)(h1:ticks<=200):∃ z,wy d i ticks=some z/\After d ticks z:=by
 have ht:=wD h.tree;have h3:inR ticks 0 200=true:=by unfold inR;simp[cmpI];omega
 unfold wy;obtain⟨t',b,e1,e2⟩:=zct ht;rw[Xj ht h.ok.smd,h.fit,Kb,xP,zX,Kb,h3,Kd (by decide),e1,Kb];cases b with
 | false=>exact⟨_,Z,λ h=>by cases h⟩
 |true=>obtain⟨k1,k2,k3⟩:=e2 Z;obtain⟨x,hx,hm⟩:=atI_ok k2 k3;have hp:=zV (jU (jw h.tree hm));obtain⟨z,j1,j2⟩:=zcw (p:=x.pkg) h k1 (by omega) h0 h1;rw[Kd (show ¬ (!true)=true by decide),hx,Kb,Kb];dsimp only;rw[j1];exact⟨_,Z,j2⟩
theorem change_after(h:DiskOk d)(hc:d.clock<=95)(h0:0<=ticks)(h1:ticks<=4)(hf:a.kind=0->smFile a.file/\zf a.file.pkg=true)(hb:a.kind≠0->a.kind≠1->zO a.file.body=true/\yX a.file.body=some (zO a.file.body)):∃ z,ji d a ticks=some z/\After d ticks z:=by
 have hcl:=h.clock;have hmin:(if d.clock+ticks<(99:Int) then d.clock+ticks else(99:Int))=d.clock+ticks:=by split <;> omega
 unfold ji;by_cases k0:a.kind=0
 ·obtain⟨f1,f2⟩:=hf k0;rw[k0,Kc (by rfl),Jp f1.2.2.1,xb (by omega) (by omega)];simp only[Kb];rw[hmin];obtain⟨z,j1,j2⟩:=add_after h (f:={ a.file with stamp:=d.clock+ticks }) f1 f2 h0 (by omega);exact⟨_,by rw[j1,Kb],j2⟩
 ·have e0:¬ cmpI .eql a.kind 0=true:=λ e=>k0 (oD e)
  rw[Kd e0];by_cases k1:a.kind=1
  ·rw[k1,Kc (by rfl)];obtain⟨z,j1,j2⟩:=remove_after h h0 (by omega);exact⟨_,by rw[j1,Kb],j2⟩
  ·have e1:¬ cmpI .eql a.kind 1=true:=λ e=>k1 (oD e)
   obtain⟨b1,b2⟩:=hb k0 k1;have hs:inR (d.clock+ticks) 0 99=true:=by unfold inR;simp[cmpI];omega
   have hs2:inR (d.clock+ticks) 0 200=true:=by unfold inR;simp[cmpI];omega
   have hs3:inR d.clock 0 200=true:=by unfold inR;simp[cmpI];omega
   obtain⟨_,q2⟩:=edit_both h.tree hs b1 b2;rw[Kd e1,xb (by omega) (by omega)];simp only[Kb];rw[hmin,q2,QA h.ok.smd];simp only[Kb];cases hr:(zcv d.tree a.index _ a.file.body).2 with
   | false=>exact⟨_,Z,λ h=>by cases h⟩
   | true=>exact⟨_,Z,λ _=>⟨⟨editP_ok h.tree hs b1 hr,⟨by show 0<=d.clock+ticks;omega,by show d.clock+ticks<=200;omega⟩,zfU (c':=d.clock+ticks) h.dirs hs3 hs2 (by omega)⟩,Z⟩⟩
theorem zcx(h:s.l.length<=1048576):wg s=some (zF s):=by
 unfold wg;have hl:zE (λ a8=>Zp s a8) 0=some (if s.l.any (λ b=>!low b)=true then .inr false else .inl ()):=by
  refine Ze _ _ _ _ (λ k x hx hlt=>?_) ?_ (by omega) Z
  ·unfold Zp;rw[zx,Kc (ab hlt),zz,hx,Kb,zX,Kb,zG (by omega)];have e1:UInt8.ofNat 97=97:=rfl;have e2:UInt8.ofNat 122=122:=rfl;rw[e1,e2];have e3:low x=!(cmpB .lss x 97||cmpB .gtr x 122):=by unfold low;simp[cmpB]
   rw[e3];cases h1:cmpB .lss x 97 with
   | true=>rfl
   | false=>cases h2:cmpB .gtr x 122 <;> simp[h2]
  ·unfold Zp;rw[zx,Kd (by simp)]
 rw[xP,Kb,hl,Jb];unfold zF
 grind
theorem validStmt_eq'{s:Stmt}(h:smStmt s):ZR s=some (zL s):=by
 have h1:=h.1;have h2:=h.2;unfold ZR zL;rw[show yw s.module=some _ from Kc (by unfold mid;omega),show yT s.module=some _ from Kc (by unfold mid;omega),zcx h2];simp only[Kb,zX,xP]
 grind
theorem QX(hlen:b.length<=1048576)(h:∀ s∈b,smStmt s):yX b=some (zO b):=by
 unfold yX;have hl:zE (λ s4=>wK b s4) 0=some (if b.any (λ x=>!zL x)=true then .inr false else .inl ()):=by
  refine Ze _ _ _ _ (λ k x hx hlt=>?_) ?_ (by omega) Z
  ·unfold wK;rw[zx,Kc (ab hlt),zz,hx,Kb,validStmt_eq' (h x (ac hx)),Kb,zG (by omega)];cases zL x <;> rfl
  ·unfold wK;rw[zx,Kd (by simp)]
 rw[hl,Kb,Jb];unfold zO
 grind
theorem child_len'(p s:Str):(child p s).l.length<=p.l.length+s.l.length+1:=by
 unfold child
 grind
theorem validFile_eq'(h:smFile f):ZS f=some (z9 f):=by
 obtain⟨h1,h2,h3,h4⟩:=h;unfold ZS z9;rw[show yT f.pkg=some _ from Kc (by unfold mid;omega),QX h3 h4,zcx h2,show xZ f.pkg f.name=some _ from Kc (by omega)];simp only[Kb,zX,xP];generalize inR f.root 0 2=a;generalize inR f.stamp 0 99=b;generalize zf f.pkg=c;generalize zO f.body=d;cases a <;> cases b <;> cases c <;> cases d <;> (try rfl);simp;split
 ·rfl
 ·cases hp:zF f.name with
  | false=>rfl
  |true=>simp;rw[show yw _=some _ from Kc (by have:=child_len' f.pkg f.name;unfold mid;omega),zX];rfl
def X5(a:GAct):Bool:=
 if cmpI .eql a.kind 0=true then z9 a.file else if cmpI .eql a.kind 1=true then true else if cmpI .eql a.kind 2=true then zO a.file.body else if cmpI .eql a.kind 3=true then zm a.name else false
def zaD(l:List GAct):Bool:=l.all X5&&cmpI .leq (l.length:Int) 20
def zaT(a:GAct):Prop:=smFile a.file/\sho a.name
theorem ValidActs_eq{l:List GAct}(hlen:l.length<=1048576)(h:∀ a∈l,zaT a):ZN l=some (zaD l):=by
 unfold ZN;have hl:zE (λ s4=>wH l s4) 0=some (if l.any (λ x=>!X5 x)=true then .inr false else .inl ()):=by
  refine Ze _ _ _ _ (λ k x hx hlt=>?_) ?_ (by omega) Z
  ·obtain⟨f1,f2⟩:=h x (ac hx);unfold wH;rw[zx,Kc (ab hlt),zz,hx,Kb,zaf f1,Wx f1.2.2.1 f1.2.2.2,x8 f2,zG (by omega)];simp;unfold X5;generalize z9 x.file=a;generalize zO x.file.body=b;generalize zm x.name=c;split
   ·cases a <;> rfl
   split
   ·rfl
   split
   ·cases b <;> rfl
   split
   ·cases c <;> rfl
   rfl
  ·unfold wH;rw[zx,Kd (by simp)]
 rw[hl,Kb,Jb];unfold zaD
 grind
theorem validActs_eq'{l:List GAct}(hlen:l.length<=1048576)(h:∀ a∈l,zaT a):ZT l=some (zaD l):=by
 unfold ZT;have hl:zE (λ s4=>wL l s4) 0=some (if l.any (λ x=>!X5 x)=true then .inr false else .inl ()):=by
  refine Ze _ _ _ _ (λ k x hx hlt=>?_) ?_ (by omega) Z
  ·obtain⟨f1,f2⟩:=h x (ac hx);unfold wL;rw[zx,Kc (ab hlt),zz,hx,Kb,validFile_eq' f1,QX f1.2.2.1 f1.2.2.2,show yw x.name=some _ from Kc (by have:=f2;unfold sho at this;unfold mid;omega),zG (by omega)];simp;unfold X5;generalize z9 x.file=a;generalize zO x.file.body=b;generalize zm x.name=c;split
   ·cases a <;> rfl
   split
   ·rfl
   split
   ·cases b <;> rfl
   split
   ·cases c <;> rfl
   rfl
  ·unfold wL;rw[zx,Kd (by simp)]
 rw[hl,Kb,Jb];unfold zaD
 grind
