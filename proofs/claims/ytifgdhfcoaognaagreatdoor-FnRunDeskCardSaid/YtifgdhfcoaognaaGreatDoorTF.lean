import Derived.Test.YtifgdhfcoaognaaGreatDoorTC
import Derived.Test.YtifgdhfcoaognaaGreatDoorTB
import Derived.Test.YtifgdhfcoaognaaGreatDoorProg
namespace Go.Proofs.YtifgdhfcoaognaaGreatDoor
open Go.RowKit Tryz
attribute [local irreducible] OpRel OpdR
set_option maxRecDepth 10000
variable{r:Bool}{x2 x3:Int}{x0 x1:Str}
theorem yc:prog.follows .mixedOrders=true:=by kernel_rfl
theorem kT3:tyB prog 3 false 1=true:=by kernel_rfl
theorem zc0:fldB prog 71 1 1=true:=by kernel_rfl
theorem kT9:tyB prog 9 false 1=true:=by kernel_rfl
theorem kF71_3:fldB prog 71 3 3=true:=by kernel_rfl
theorem kT4:tyB prog 4 false 1=true:=by kernel_rfl
theorem zc1:fldB prog 71 2 2=true:=by kernel_rfl
theorem kS24:slB prog 24 1=true:=by kernel_rfl
theorem kX9:Wm prog 9=true:=by kernel_rfl
def WT(x0:Int)(x1:Int)(x2:Int):Option Bool:=
some (cmpI .leq x1 x0&&cmpI .leq x0 x2)
theorem zeh{x0:Int}{x1:Int}(h:WT x0 x1 x2=some r):Fn prog 38 [dt x0,dt x1,dt x2] (dt r):=by
 refine fq1 0 func38 λ M _ _ j=>?_
 refine j.q1 λ j=>?_
 exact j.e1 h
instance:Ct3 prog 38 dt dt dt dt WT:=⟨λ h=>zeh h⟩
def xe(x0:Int)(x1:Int)(x2:Int):Option Bool:=
some (cmpI .geq x0 x1&&cmpI .leq x0 x2)
theorem qK{x0:Int}{x1:Int}(h:xe x0 x1 x2=some r):Fn prog 19 [dt x0,dt x1,dt x2] (dt r):=by
 refine fq1 0 func19 λ M _ _ j=>?_
 refine j.q1 λ j=>?_
 exact j.e1 h
instance:Ct3 prog 19 dt dt dt dt xe:=⟨λ h=>qK h⟩
def QB(x0:File)(x1:File):Option Bool:=
some (((cmpI .eql x0.root x1.root&&decide (x0.pkg=x1.pkg))&&(x0.init == x1.init))&&decide (x0.name=x1.name))
theorem zdR{x0:File}{x1:File}(h:QB x0 x1=some r):Fn prog 92 [dt x0,dt x1] (dt r):=by
 refine fq1 0 func92 λ M _ _ j=>?_
 refine j.q1 λ j=>?_
 exact j.e1 h
instance:Ct2 prog 92 dt dt dt QB:=⟨λ h=>zdR h⟩
def Zf(x0:File)(x1:File):Option Bool:=
some (((cmpI .eql x0.root x1.root&&decide (x0.pkg=x1.pkg))&&(x0.init == x1.init))&&decide (x0.name=x1.name))
theorem zc2{x0:File}{x1:File}(h:Zf x0 x1=some r):Fn prog 64 [dt x0,dt x1] (dt r):=by
 refine fq1 0 func64 λ M _ _ j=>?_
 refine j.q1 λ j=>?_
 exact j.e1 h
instance:Ct2 prog 64 dt dt dt Zf:=⟨λ h=>zc2 h⟩
def zc3(x0:List Str)(x1:Str)(s4:Int):Option (Int⊕(Unit⊕Int)):=
if(cmpI .lss s4 (x0.length:Int))=true then((atI x0 s4).bind λ v9=>
if(decide (v9=x1))=true then(some (.inr (.inr s4)))
else((i64 (s4+(1:Int))).bind λ v17=>
some (.inl v17)))
else(some (.inr (.inl ())))
def Jt(x0:List Str)(x1:Str):Option Int:=
Option.bind (α:=Unit⊕Int) (zP (λ s4=>zc3 x0 x1 s4) (0:Int)) (Sum.elim (λ _b2=>
some (-1:Int)) some)
theorem spec_textAt_w{x0:List Str}{r:Int}(h:Jt x0 x1=some r):Fn prog 188 [dt x0,dt x1] (dt r):=by
 refine fq1 0 func188 λ M w0 _ j=>?_
 refine j.q1 (λ j=>za ?_)
 refine j.jb [] (λ _=>[]) h (λ o2 p2 k2=>?_) λ b2 _ _ j h=>?_
 ·refine j.q1 λ j=>?_
  refine j.lp [0,1] (λ s4=>[(5,dt s4)]) p2 λ s4 x4 _ _ j h hx4=>?_
  refine j.qc h (λ j h=>?_) λ j h=>?_
  ·have⟨v9,p9,h⟩:=bs h
   refine j.qc h (λ j h=>?_) λ j h=>?_
   ·exact j.e1 (jo (lo h hx4) k2)
   have⟨v17,p17,h⟩:=bs h
   exact j.n1 [] h
  have h:=lo h hx4
  exact flz h
 exact j.e1 h
instance:Ct2 prog 188 dt dt dt Jt:=⟨λ h=>spec_textAt_w h⟩
def Q3(x0:List Str)(x1:Str):Option Bool:=
(Jt x0 x1).bind λ v2=>
some (cmpI .geq v2 0)
theorem zei{x0:List Str}(h:Q3 x0 x1=some r):Fn prog 158 [dt x0,dt x1] (dt r):=by
 refine fq1 0 func158 λ M _ _ j=>?_
 refine j.q1 λ j=>?_
 have⟨v2,p2,h⟩:=bs h
 exact j.e1 h
instance:Ct2 prog 158 dt dt dt Q3:=⟨λ h=>zei h⟩
def zaR(x0:Str)(s10:Int):Option (Int⊕(Unit⊕Bool)):=
if(cmpI .lss s10 (x0.l.length:Int))=true then((atI x0.l s10).bind λ v15=>
(gO (cmpB .lss v15 (UInt8.ofNat 97) == false) (atI x0.l s10)).bind λ v16=>
if(cmpB .lss v15 (UInt8.ofNat 97)||cmpB .gtr v16 (UInt8.ofNat 122))=true then(some (.inr (.inr false)))
else((i64 (s10+(1:Int))).bind λ v25=>
some (.inl v25)))
else(some (.inr (.inl ())))
def JO(x0:Str):Option Bool:=
(WT (x0.l.length:Int) (1:Int) (3:Int)).bind λ v2=>
if(!v2)=true then(some false)
else(Option.bind (α:=Unit⊕Bool) (zP (λ s10=>zaR x0 s10) (0:Int)) (Sum.elim (λ _b8=>
some true) some))
theorem zc4(h:JO x0=some r):Fn prog 83 [dt x0] (dt r):=by
 refine fq1 0 func83 λ M w0 _ j=>?_
 refine j.q1 λ j=>?_
 have⟨v2,p2,h⟩:=bs h
 refine j.qc h (λ j h=>?_) λ j h=>?_
 ·exact j.e1 h
 refine wqk ?_
 refine za ?_
 refine j.jb [] (λ _=>[]) h (λ o8 p8 k8=>?_) λ b8 _ _ j h=>?_
 ·refine j.q1 λ j=>?_
  refine j.lp [0] (λ s10=>[(3,dt s10)]) p8 λ s10 x10 _ _ j h hx10=>?_
  refine j.qc h (λ j h=>?_) λ j h=>?_
  ·have⟨v15,p15,h⟩:=bs h
   have⟨v16,p16,h⟩:=bs h
   refine j.qc h (λ j h=>?_) λ j h=>?_
   ·exact j.e1 (jo (lo h hx10) k8)
   have⟨v25,p25,h⟩:=bs h
   exact j.n1 [] h
  have h:=lo h hx10
  exact flz h
 exact j.e1 h
instance:Ct1 prog 83 dt dt JO:=⟨λ h=>zc4 h⟩
def qS(x0:Str)(s4:Int):Option (Int⊕(Unit⊕Bool)):=
if(cmpI .lss s4 (x0.l.length:Int))=true then((atI x0.l s4).bind λ v10=>
(gO (cmpB .lss v10 (UInt8.ofNat 97) == false) (atI x0.l s4)).bind λ v11=>
if(cmpB .lss v10 (UInt8.ofNat 97)||cmpB .gtr v11 (UInt8.ofNat 122))=true then(some (.inr (.inr false)))
else((i64 (s4+(1:Int))).bind λ v20=>
some (.inl v20)))
else(some (.inr (.inl ())))
def xf(x0:Str):Option Bool:=
Option.bind (α:=Unit⊕Bool) (zP (λ s4=>qS x0 s4) (0:Int)) (Sum.elim (λ _b2=>
(xe (x0.l.length:Int) (1:Int) (3:Int)).bind λ v25=>
some v25) some)
theorem jL(h:xf x0=some r):Fn prog 74 [dt x0] (dt r):=by
 refine fq1 0 func74 λ M w0 _ j=>?_
 refine j.q1 (λ j=>za ?_)
 refine j.jb [0] (λ _=>[]) h (λ o2 p2 k2=>?_) λ b2 _ _ j h=>?_
 ·refine j.q1 λ j=>?_
  refine j.lp [0,5] (λ s4=>[(6,dt s4)]) p2 λ s4 x4 _ _ j h hx4=>?_
  refine j.qc h (λ j h=>?_) λ j h=>?_
  ·refine j.q1 λ j=>?_
   have⟨v10,p10,v11,p11,h⟩:=Kg h
   refine j.qc h (λ j h=>?_) λ j h=>?_
   ·exact j.e1 (jo (lo h hx4) k2)
   have⟨v20,p20,h⟩:=bs h
   exact j.n1 [] h
  have h:=lo h hx4
  exact flz h
 have⟨v25,p25,h⟩:=bs h
 exact j.e1 h
instance:Ct1 prog 74 dt dt xf:=⟨λ h=>jL h⟩
def wS(x0:List Int)(x1:Int)(s4:Int):Option (Int⊕(Unit⊕Int)):=
if(cmpI .lss s4 (x0.length:Int))=true then((atI x0 s4).bind λ v10=>
if cmpI .eql x1 v10 then(some (.inr (.inr s4)))
else((i64 (s4+(1:Int))).bind λ v18=>
some (.inl v18)))
else(some (.inr (.inl ())))
def wE(x0:List Int)(x1:Int):Option Int:=
Option.bind (α:=Unit⊕Int) (zP (λ s4=>wS x0 x1 s4) (0:Int)) (Sum.elim (λ _b2=>
some (-1:Int)) some)
theorem Qd{x0:List Int}{x1:Int}{r:Int}(h:wE x0 x1=some r):Fn prog 53 [dt x0,dt x1] (dt r):=by
 refine fq1 0 func53 λ M w0 _ j=>?_
 refine j.q1 (λ j=>za ?_)
 refine j.jb [] (λ _=>[]) h (λ o2 p2 k2=>?_) λ b2 _ _ j h=>?_
 ·refine j.q1 λ j=>?_
  refine j.lp [0,1,7] (λ s4=>[(8,dt s4)]) p2 λ s4 x4 _ _ j h hx4=>?_
  refine j.qc h (λ j h=>?_) λ j h=>?_
  ·refine j.q1 λ j=>?_
   have⟨v10,p10,h⟩:=bs h
   refine j.qc h (λ j h=>?_) λ j h=>?_
   ·exact j.e1 (jo (lo h hx4) k2)
   have⟨v18,p18,h⟩:=bs h
   exact j.n1 [] h
  have h:=lo h hx4
  exact flz h
 exact j.e1 h
instance:Ct2 prog 53 dt dt dt wE:=⟨λ h=>Qd h⟩
def yV(x0:List Str)(x1:Str)(s4:Int):Option (Int⊕(Unit⊕Int)):=
if(cmpI .lss s4 (x0.length:Int))=true then((atI x0 s4).bind λ v10=>
if(decide (x1=v10))=true then(some (.inr (.inr s4)))
else((i64 (s4+(1:Int))).bind λ v18=>
some (.inl v18)))
else(some (.inr (.inl ())))
def wl(x0:List Str)(x1:Str):Option Int:=
Option.bind (α:=Unit⊕Int) (zP (λ s4=>yV x0 x1 s4) (0:Int)) (Sum.elim (λ _b2=>
some (-1:Int)) some)
theorem Wi{x0:List Str}{r:Int}(h:wl x0 x1=some r):Fn prog 181 [dt x0,dt x1] (dt r):=by
 refine fq1 0 func181 λ M w0 _ j=>?_
 refine j.q1 (λ j=>za ?_)
 refine j.jb [] (λ _=>[]) h (λ o2 p2 k2=>?_) λ b2 _ _ j h=>?_
 ·refine j.q1 λ j=>?_
  refine j.lp [0,1,7] (λ s4=>[(8,dt s4)]) p2 λ s4 x4 _ _ j h hx4=>?_
  refine j.qc h (λ j h=>?_) λ j h=>?_
  ·refine j.q1 λ j=>?_
   have⟨v10,p10,h⟩:=bs h
   refine j.qc h (λ j h=>?_) λ j h=>?_
   ·exact j.e1 (jo (lo h hx4) k2)
   have⟨v18,p18,h⟩:=bs h
   exact j.n1 [] h
  have h:=lo h hx4
  exact flz h
 exact j.e1 h
instance:Ct2 prog 181 dt dt dt wl:=⟨λ h=>Wi h⟩
def xW(x0:List Int)(x1:Int):Option Bool:=
(wE x0 x1).bind λ v2=>
some (cmpI .geq v2 0)
theorem Yu{x0:List Int}{x1:Int}(h:xW x0 x1=some r):Fn prog 20 [dt x0,dt x1] (dt r):=by
 refine fq1 0 func20 λ M _ _ j=>?_
 refine j.q1 λ j=>?_
 have⟨v2,p2,h⟩:=bs h
 exact j.e1 h
instance:Ct2 prog 20 dt dt dt xW:=⟨λ h=>Yu h⟩
def yw(x0:List Str)(x1:Str):Option Bool:=
(wl x0 x1).bind λ v2=>
some (cmpI .geq v2 0)
theorem qQ{x0:List Str}(h:yw x0 x1=some r):Fn prog 146 [dt x0,dt x1] (dt r):=by
 refine fq1 0 func146 λ M _ _ j=>?_
 refine j.q1 λ j=>?_
 have⟨v2,p2,h⟩:=bs h
 exact j.e1 h
instance:Ct2 prog 146 dt dt dt yw:=⟨λ h=>qQ h⟩
theorem kE24:elB prog 24 9 1 16=true:=by kernel_rfl
theorem kZ9:wW prog 9=some Xn:=by kernel_rfl
def xn(x0:Str)(x1:Str):Option Bool:=
(gO (cmpI .geq (x0.l.length:Int) (x1.l.length:Int) == true) (JI x0 (x1.l.length:Int))).bind λ v2=>
some (cmpI .geq (x0.l.length:Int) (x1.l.length:Int)&&decide (v2=x1))
theorem Xq(h:xn x0 x1=some r):Fn prog 225 [dt x0,dt x1] (dt r):=by
 refine fq1 0 func225 λ M _ _ j=>?_
 refine j.q1 λ j=>?_
 have⟨v2,p2,h⟩:=bs h
 exact j.e1 h
instance:Ct2 prog 225 dt dt dt xn:=⟨λ h=>Xq h⟩
def jB(x0:Str)(x1:Str):Option Bool:=
(xn x0 x1).bind λ v2=>
some v2
theorem Wo(h:jB x0 x1=some r):Fn prog 207 [dt x0,dt x1] (dt r):=by
 refine fq1 0 func207 λ M _ _ j=>?_
 refine j.q1 λ j=>?_
 have⟨v2,p2,h⟩:=bs h
 exact j.e1 h
instance:Ct2 prog 207 dt dt dt jB:=⟨λ h=>Wo h⟩
def z8(x0:Str)(x1:UInt8)(s6:Int):Option (Int⊕(Unit⊕Int)):=
if cmpI .geq s6 0 then((atI x0.l s6).bind λ v11=>
if(cmpB .eql v11 x1)=true then(some (.inr (.inr s6)))
else((i64 (s6 - (1:Int))).bind λ v19=>
some (.inl v19)))
else(some (.inr (.inl ())))
def yN(x0:Str)(x1:UInt8):Option Int:=
Option.bind (α:=Unit⊕Int) ((i64 ((x0.l.length:Int) - (1:Int))).bind λ v3=>
zP (λ s6=>z8 x0 x1 s6) v3) (Sum.elim (λ _b2=>
some (-1:Int)) some)
theorem Z8{x1:UInt8}{r:Int}(h:yN x0 x1=some r):Fn prog 208 [dt x0,dt x1] (dt r):=by
 refine fq1 0 func208 λ M w0 _ j=>?_
 refine j.q1 (λ j=>za ?_)
 refine j.jb [] (λ _=>[]) h (λ o2 p2 k2=>?_) λ b2 _ _ j h=>?_
 ·have⟨v3,p3,h⟩:=bs p2
  refine j.q1 λ j=>?_
  refine j.lp [0,1] (λ s6=>[(5,dt s6)]) h λ s6 x6 _ _ j h hx6=>?_
  refine j.qc h (λ j h=>?_) λ j h=>?_
  ·have⟨v11,p11,h⟩:=bs h
   refine j.qc h (λ j h=>?_) λ j h=>?_
   ·exact j.e1 (jo (lo h hx6) k2)
   have⟨v19,p19,h⟩:=bs h
   exact j.n1 [] h
  have h:=lo h hx6
  exact flz h
 exact j.e1 h
instance:Ct2 prog 208 dt dt dt yN:=⟨λ h=>Z8 h⟩
def zY(x0:Str)(x1:UInt8):Option Int:=
(yN x0 x1).bind λ v2=>
some v2
theorem JP{x1:UInt8}{r:Int}(h:zY x0 x1=some r):Fn prog 186 [dt x0,dt x1] (dt r):=by
 refine fq1 0 func186 λ M _ _ j=>?_
 refine j.q1 λ j=>?_
 have⟨v2,p2,h⟩:=bs h
 exact j.e1 h
instance:Ct2 prog 186 dt dt dt zY:=⟨λ h=>JP h⟩
def wT(x1:Str)(x2:Int)(v30:Int)(s35:Str×(List Str)×Int):Option ((Str×(List Str)×Int)⊕(Str×(List Str)×Int)):=
if cmpI .lss s35.2.2 v30 then((wK s35.1 x1).bind λ v40=>
if cmpI .lss v40 0 then(some (.inr (s35.1,s35.2.1,s35.2.2)))
else((i64 (v40+x2)).bind λ v47=>
(JI s35.1 v47).bind λ v48=>
(atI s35.2.1 s35.2.2).bind λ _v49=>
(setO s35.2.1 s35.2.2 v48).bind λ v55=>
(i64 (v40+(x1.l.length:Int))).bind λ v57=>
(za0 s35.1 v57).bind λ v58=>
(i64 (s35.2.2+(1:Int))).bind λ v62=>
some (.inl (v58,v55,v62))))
else(some (.inr (s35.1,s35.2.1,s35.2.2)))
def Zr(x0:Str)(x1:Str)(x2:Int)(x3:Int):Option (List Str):=
if cmpI .eql x3 0 then(some ([]:List Str))
else(if(decide (x1=(⟨[]⟩:Str)))=true then((Xo x0 x3).bind λ v9=>
some v9)
else(Option.bind (α:=Int) (if cmpI .lss x3 0 then((ZB x0 x1).bind λ v16=>
(i64 (v16+(1:Int))).bind λ v17=>
some v17)
else(some x3)) λ o12=>
(i64 ((x0.l.length:Int)+(1:Int))).bind λ v22=>
(makeO 1 16 (if v22<o12 then v22 else o12) zStr).bind λ v27=>
(i64 ((if v22<o12 then v22 else o12) - (1:Int))).bind λ v30=>
Option.bind (α:=Str×(List Str)×Int) (zP (λ s35=>wT x1 x2 v30 s35) (x0,v27,(0:Int))) λ o34=>
(atI o34.2.1 o34.2.2).bind λ _v67=>
(setO o34.2.1 o34.2.2 o34.1).bind λ v71=>
(i64 (o34.2.2+(1:Int))).bind λ v74=>
(JJ v71 v74).bind λ v75=>
some v75))
theorem zbC{r:List Str}(h:Zr x0 x1 x2 x3=some r):Fn prog 58 [dt x0,dt x1,dt x2,dt x3] (dt r):=by
 refine fq1 1 func58 λ M w0 _ j=>?_
 refine j.q1 (λ j=>?_) (hs:=sc Z (oA Z (jC (α:=Str)))<|.nil)
 refine j.qc h (λ j h=>?_) λ j h=>?_
 ·exact j.e1 h (hs:=sc Z (oA Z (jC (α:=Str)))<|.nil)
 refine j.qc h (λ j h=>?_) λ j h=>?_
 ·have⟨v9,p9,h⟩:=bs h
  exact j.e1 h
 refine wqk ?_
 refine za ?_
 refine j.jmq 1 [0,1,2] (λ o12=>[(3,dt o12)]) (λ _ _=>[]) h (λ o12 p12=>?_) λ o12 q12 _ _ _ j h=>?_
 ·refine j.qc p12 (λ j h=>?_) λ j h=>?_
  ·have⟨v16,p16,h⟩:=bs h
   have⟨v17,p17,h⟩:=bs h
   refine j.q1 λ j=>?_
   cases h
   exact fz
  cases h
  exact fz
 have⟨v22,p22,h⟩:=bs h
 refine j.q1 (λ j=>Ka ?_)
 refine j.g1 1 λ _ _ j=>?_
 have⟨v27,p27,h⟩:=bs h
 refine j.make 0 Z Z kE24 kZ9 Jf Z (gl Z) p27 [0,1,2,3] Z [] Z Z λ g26 _ _ _ j=>?_
 refine j.go_ 1 [(9,0)] (λ _ _ j=>Kb ?_)
 have⟨v30,p30,h⟩:=bs h
 refine j.qo [(9,0)] λ _ _ j=>?_
 refine j.qo [(9,0)] (λ _ _ j=>za ?_)
 refine j.jmq 1 [] (λ o34=>[(0,dt o34.1),(10,dt o34.2.2)]) (λ o34 q=>[(9,0,dtip (q 0) 9 o34.2.1)]) h (λ o34 p34=>?_) λ o34 q34 _ _ _ j h=>?_
 ·refine j.lpq 1 [1,2,3] (λ s35=>[(0,dt s35.1),(10,dt s35.2.2)]) (λ s35 q=>[(9,0,dtip (q 0) 9 s35.2.1)]) p34 λ s35 x35 q35 _ _ _ j h hx35=>?_
  refine j.qd [(9,0)] h (λ _ _ j h=>?_) λ _ _ j h=>?_
  ·have⟨v40,p40,h⟩:=bs h
   refine j.qo [(9,0)] λ _ _ j=>?_
   refine j.qd [(9,0)] h (λ _ _ j h=>?_) λ _ _ j h=>?_
   ·have h:=lo h hx35
    cases h
    exact fz
   refine Ka ?_
   have⟨v47,p47,v48,p48,h⟩:=Kg h
   have⟨v49,p49,h⟩:=bs h
   refine j.go_ 8 [(9,0),(49,0)] (λ _ _ j=>?_) (hs:=sc Z (oM Z T)<|
     sc Z (oM Z T)<|
     sc Z (oM Z T)<|
     sc Z (oM Z T)<|
     sc Z (oM Z T)<|
     sc Z (xAr Z T T p47)<|
     sc Z (xCutH Z T T p48)<|
     sc Z (xIdxT Z kS24 T T p49)<|.nil)
   have⟨v55,p55,h⟩:=bs h
   refine j.storeT (sb:=9) 0 Z Z Z kT9 Z Z (tp Z) Z p55 [0,1,2,3,10,11] Z [] Z Z (λ _ _ j=>Kb ?_)
   have⟨v57,p57,v58,p58,h⟩:=Kg h
   refine j.qo [(9,0)] λ _ _ j=>?_
   have⟨v62,p62,h⟩:=bs h
   exact j.n1 [(9,0)] h
  have h:=lo h hx35
  cases h
  exact fz
 refine Ka ?_
 have⟨v67,p67,h⟩:=bs h
 refine j.go_ 4 [(9,0),(61,0)] (λ _ _ j=>?_) (hs:=sY 3 (r:=by exact sc Z (xIdxT Z kS24 T T p67)<|.nil))
 have⟨v71,p71,h⟩:=bs h
 refine j.storeT (sb:=9) 0 Z Z Z kT9 Z Z (tp Z) Z p71 [10] Z [] Z Z (λ _ _ j=>Kb ?_)
 have j:=j.frz 0 (s:=9) Z Z [10] Z [] Z
 have⟨v74,p74,v75,p75,h⟩:=Kg h
 exact j.e1 h (hs:=sY 3 (r:=by exact sc Z (za1 Z T T p75)<|segY))
instance:Ct4 prog 58 dt dt dt dt dt Zr:=⟨λ h=>zbC h⟩
def yY(x0:Str)(x1:Str):Option (List Str):=
(Zr x0 x1 (0:Int) (-1:Int)).bind λ v2=>
some v2
theorem zdS{r:List Str}(h:yY x0 x1=some r):Fn prog 26 [dt x0,dt x1] (dt r):=by
 refine fq1 0 func26 λ M _ _ j=>?_
 refine j.q1 (λ j=>?_) (hs:=sc Z (oA Z (jC (α:=Str)))<|.nil)
 have⟨v2,p2,h⟩:=bs h
 exact j.e1 h
instance:Ct2 prog 26 dt dt dt yY:=⟨λ h=>zdS h⟩
def qT(v2:List Str)(s7:Int):Option (Int⊕(Unit⊕Bool)):=
if(cmpI .lss s7 (v2.length:Int))=true then((atI v2 s7).bind λ v12=>
(xf v12).bind λ v15=>
if(!v15)=true then(some (.inr (.inr false)))
else((i64 (s7+(1:Int))).bind λ v23=>
some (.inl v23)))
else(some (.inr (.inl ())))
def z7(x0:Str):Option Bool:=
(yY x0 (⟨[46]⟩:Str)).bind λ v2=>
Option.bind (α:=Unit⊕Bool) (zP (λ s7=>qT v2 s7) (0:Int)) (Sum.elim (λ _b5=>
some (cmpI .leq (v2.length:Int) 3)) some)
theorem xN(h:z7 x0=some r):Fn prog 34 [dt x0] (dt r):=by
 refine fq1 0 func34 λ M w0 _ j=>?_
 refine j.q1 λ j=>?_
 have⟨v2,p2,h⟩:=bs h
 refine j.q1 (λ j=>za ?_)
 refine j.jb [3] (λ _=>[]) h (λ o5 p5 k5=>?_) λ b5 _ _ j h=>?_
 ·refine j.q1 λ j=>?_
  refine j.lp [3,8,9] (λ s7=>[(10,dt s7)]) p5 λ s7 x7 _ _ j h hx7=>?_
  refine j.qc h (λ j h=>?_) λ j h=>?_
  ·have⟨v12,p12,h⟩:=bs h
   refine j.q1 λ j=>?_
   have⟨v15,p15,h⟩:=bs h
   refine j.qc h (λ j h=>?_) λ j h=>?_
   ·exact j.e1 (jo (lo h hx7) k5)
   have⟨v23,p23,h⟩:=bs h
   exact j.n1 [] h
  have h:=lo h hx7
  exact flz h
 exact j.e1 h
instance:Ct1 prog 34 dt dt z7:=⟨λ h=>xN h⟩
def xO(x0:Str):Option Bool:=
(gO (decide (x0=(⟨[]⟩:Str)) == false) (z7 x0)).bind λ v2=>
some (decide (x0=(⟨[]⟩:Str))||v2)
theorem jM(h:xO x0=some r):Fn prog 98 [dt x0] (dt r):=by
 refine fq1 0 func98 λ M _ _ j=>?_
 refine j.q1 λ j=>?_
 have⟨v2,p2,h⟩:=bs h
 exact j.e1 h (hs:=sY 4 (r:=by exact sg Z Z (λ hg=>oK (xN (gh hg p2)))<|segY))
instance:Ct1 prog 98 dt dt xO:=⟨λ h=>jM h⟩
def jT(x0:Str):Option (List Str):=
(z7 x0).bind λ v2=>
if(!v2)=true then(some ([]:List Str))
else((yY x0 (⟨[46]⟩:Str)).bind λ v8=>
some v8)
theorem Xr{r:List Str}(h:jT x0=some r):Fn prog 108 [dt x0] (dt r):=by
 refine fq1 0 func108 λ M _ _ j=>?_
 refine j.q1 (λ j=>?_) (hs:=sc Z (oA Z (jC (α:=Str)))<|.nil)
 have⟨v2,p2,h⟩:=bs h
 refine j.qc h (λ j h=>?_) λ j h=>?_
 ·exact j.e1 h (hs:=sc Z (yf (opds:=[]) (α:=Str) Z Z Z .nil)<|segY)
 have⟨v8,p8,h⟩:=bs h
 exact j.e1 h
instance:Ct1 prog 108 dt dt jT:=⟨λ h=>Xr h⟩
def xK(x0:Str):Option Str:=
(zY x0 (UInt8.ofNat 46)).bind λ v2=>
(z7 x0).bind λ v5=>
if((!v5)||cmpI .lss v2 0)=true then(some (⟨[]⟩:Str))
else((JI x0 v2).bind λ v11=>
some v11)
theorem zdT{r:Str}(h:xK x0=some r):Fn prog 152 [dt x0] (dt r):=by
 refine fq1 0 func152 λ M _ _ j=>?_
 refine j.q1 λ j=>?_
 have⟨v2,p2,h⟩:=bs h
 refine j.q1 λ j=>?_
 have⟨v5,p5,h⟩:=bs h
 refine j.qc h (λ j h=>?_) (λ j h=>?_) (hs:=sc Z (oM Z T)<|
  sc Z (zA (l:=[.tmp 6]) Z (.cons T .nil) (xN p5))<|
  sc Z (qe Z T)<|
  sc Z (oM Z T)<|
  sg Z Z (λ hg=>oM Z T)<|
  sg Z Z (λ hg=>oCI Z V cI)<|
  sc Z (Za Z T T)<|.nil)
 ·exact j.e1 h
 have⟨v11,p11,h⟩:=bs h
 exact j.e1 h
instance:Ct1 prog 152 dt dt xK:=⟨λ h=>zdT h⟩
def jH(x0:Str):Option Str:=
(z7 x0).bind λ v2=>
if(!v2)=true then(some (⟨[]⟩:Str))
else((zY x0 (UInt8.ofNat 46)).bind λ v8=>
(i64 (v8+(1:Int))).bind λ v9=>
(za0 x0 v9).bind λ v10=>
some v10)
theorem Ju{r:Str}(h:jH x0=some r):Fn prog 156 [dt x0] (dt r):=by
 refine fq1 0 func156 λ M _ _ j=>?_
 refine j.q1 λ j=>?_
 have⟨v2,p2,h⟩:=bs h
 refine j.qc h (λ j h=>?_) λ j h=>?_
 ·exact j.e1 h
 have⟨v8,p8,v9,p9,h⟩:=Kg h
 have⟨v10,p10,h⟩:=bs h
 exact j.e1 h
instance:Ct1 prog 156 dt dt jH:=⟨λ h=>Ju h⟩
def wj(x0:Str)(x1:Str):Option Str:=
(xO x0).bind λ v2=>
(gO ((!v2) == false) (xf x1)).bind λ v3=>
if((!v2)||(!v3))=true then(some (⟨[]⟩:Str))
else(Option.bind (α:=Str) (if(decide (x0≠(⟨[]⟩:Str)))=true then((catO x0 (⟨[46]⟩:Str)).bind λ v14=>
(catO v14 x1).bind λ v15=>
some v15)
else(some x1)) λ o10=>
(z7 o10).bind λ v20=>
if(!v20)=true then(some (⟨[]⟩:Str))
else(some o10))
theorem WU{r:Str}(h:wj x0 x1=some r):Fn prog 100 [dt x0,dt x1] (dt r):=by
 refine fq1 0 func100 λ M w0 _ j=>?_
 refine j.q1 λ j=>?_
 have⟨v2,p2,v3,p3,h⟩:=Kg h
 refine j.qc h (λ j h=>?_) (λ j h=>?_) (hs:=sY 1 (r:=by exact sc Z (oK (jM p2))<|sY 3 (r:=by exact sg Z Z (λ hg=>oK (jL (gh hg p3)))<|segY)))
 ·exact j.e1 h
 refine wqk ?_
 refine za ?_
 refine j.jm [] (λ o10=>[(1,dt o10)]) h (λ o10 p10=>?_) λ o10 _ _ j h=>?_
 ·refine j.qc p10 (λ j h=>?_) λ j h=>?_
  ·have⟨v14,p14,h⟩:=bs h
   have⟨v15,p15,h⟩:=bs h
   refine j.q1 λ j=>?_
   cases h
   exact fz
  cases h
  exact fz
 have⟨v20,p20,h⟩:=bs h
 refine j.qc h (λ j h=>?_) λ j h=>?_
 ·exact j.e1 h
 exact j.e1 h
instance:Ct2 prog 100 dt dt dt wj:=⟨λ h=>WU h⟩
def Z9(x0:Str)(x1:Str):Option Bool:=
(z7 x0).bind λ v2=>
(gO ((!v2) == false) (xO x1)).bind λ v3=>
if((!v2)||(!v3))=true then(some false)
else((gO ((decide (x1=(⟨[]⟩:Str))||decide (x0=x1)) == false) (catO x1 (⟨[46]⟩:Str))).bind λ v10=>
(gO ((decide (x1=(⟨[]⟩:Str))||decide (x0=x1)) == false) (jB x0 v10)).bind λ v11=>
some ((decide (x1=(⟨[]⟩:Str))||decide (x0=x1))||v11))
theorem Q4(h:Z9 x0 x1=some r):Fn prog 182 [dt x0,dt x1] (dt r):=by
 refine fq1 0 func182 λ M _ _ j=>?_
 refine j.q1 λ j=>?_
 have⟨v2,p2,v3,p3,h⟩:=Kg h
 refine j.qc h (λ j h=>?_) (λ j h=>?_) (hs:=sc Z (oM Z T)<|
  sc Z (zA (l:=[.tmp 5]) Z (.cons T .nil) (xN p2))<|
  sc Z (qe Z T)<|
  sc Z (oM Z T)<|
  sg Z Z (λ hg=>oM Z T)<|
  sg Z Z (λ hg=>zA (l:=[.tmp 9]) Z (.cons V .nil) (jM (gh hg p3)))<|
  sg Z Z (λ hg=>qe Z V)<|
  sc Z (Za Z T T)<|.nil)
 ·exact j.e1 h
 have⟨v10,p10,v11,p11,h⟩:=Kg h
 exact j.e1 h (hs:=sc Z (oM Z T)<|
  sc Z (jx Z T (zt))<|
  sc Z (oM Z T)<|
  sg Z Z (λ hg=>oM Z T)<|
  sg Z Z (λ hg=>oM Z T)<|
  sg Z Z (λ hg=>jx Z V V)<|
  sc Z (Za Z T T)<|
  sc Z (oM Z T)<|
  sg Z Z (λ hg=>oM Z T)<|
  sg Z Z (λ hg=>oM Z T)<|
  sg Z Z (λ hg=>xCat Z V (zt) (gh hg p10))<|
  sg Z Z (λ hg=>zA (l:=[.tmp 21,.tmp 23]) Z (.cons V (.cons V .nil)) (Wo (gh hg p11)))<|
  sc Z (Za Z T T)<|
  sc Z (oA Z T)<|.nil)
instance:Ct2 prog 182 dt dt dt Z9:=⟨λ h=>Q4 h⟩
end Go.Proofs.YtifgdhfcoaognaaGreatDoor
