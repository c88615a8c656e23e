import Derived.Test.YtbbfcjifihknnaaGreatDoorTC
import Derived.Test.YtbbfcjifihknnaaGreatDoorTB
import Derived.Test.YtbbfcjifihknnaaGreatDoorProg
namespace Go.Proofs.YtbbfcjifihknnaaGreatDoor
open Go.RowKit Tryz
attribute [local irreducible] OpRel OpdR
set_option maxRecDepth 10000
variable{r:Bool}{x2 x3:Int}{x0 x1:Str}
theorem zG:prog.follows .mixedOrders=true:=by kernel_rfl
theorem kT9:tyB prog 9 false 1=true:=by kernel_rfl
theorem kT4:tyB prog 4 false 1=true:=by kernel_rfl
theorem kL64:isSl prog 64=true:=by kernel_rfl
theorem kS64:slB prog 64 1=true:=by kernel_rfl
theorem kS25:slB prog 25 1=true:=by kernel_rfl
def Z1(x0:Int)(x1:Int)(x2:Int):Option Bool:=
some (cmpI .leq x1 x0&&cmpI .leq x0 x2)
theorem WK{x0:Int}{x1:Int}(h:Z1 x0 x1 x2=some r):Fn prog 68 [dt x0,dt x1,dt x2] (dt r):=by
 refine fq1 0 func68 λ M _ _ j=>?_
 refine j.q1 λ j=>?_
 exact j.e1 h
instance:Ct3 prog 68 dt dt dt dt Z1:=⟨λ h=>WK h⟩
def yZ(x0:Int)(x1:Int)(x2:Int):Option Bool:=
some (cmpI .geq x0 x1&&cmpI .leq x0 x2)
theorem jx{x0:Int}{x1:Int}(h:yZ x0 x1 x2=some r):Fn prog 50 [dt x0,dt x1,dt x2] (dt r):=by
 refine fq1 0 func50 λ M _ _ j=>?_
 refine j.q1 λ j=>?_
 exact j.e1 h
instance:Ct3 prog 50 dt dt dt dt yZ:=⟨λ h=>jx h⟩
def Qt(x0:File)(x1:File):Option Bool:=
some (((cmpI .eql x0.root x1.root&&decide (x0.pkg=x1.pkg))&&(x0.init == x1.init))&&decide (x0.name=x1.name))
theorem zdD{x0:File}{x1:File}(h:Qt x0 x1=some r):Fn prog 210 [dt x0,dt x1] (dt r):=by
 refine fq1 0 func210 λ M _ _ j=>?_
 refine j.q1 λ j=>?_
 exact j.e1 h
instance:Ct2 prog 210 dt dt dt Qt:=⟨λ h=>zdD h⟩
def qT(x0:File)(x1:File):Option Bool:=
some (((cmpI .eql x0.root x1.root&&decide (x0.pkg=x1.pkg))&&(x0.init == x1.init))&&decide (x0.name=x1.name))
theorem zcT{x0:File}{x1:File}(h:qT x0 x1=some r):Fn prog 89 [dt x0,dt x1] (dt r):=by
 refine fq1 0 func89 λ M _ _ j=>?_
 refine j.q1 λ j=>?_
 exact j.e1 h
instance:Ct2 prog 89 dt dt dt qT:=⟨λ h=>zcT h⟩
def zcU(x0:List Str)(x1:Str)(s4:Int):Option (Int⊕(Unit⊕Int)):=
if(cmpI .lss s4 (x0.length:Int))=true then((atI x0 s4).bind λ v9=>
if(decide (v9=x1))=true then(some (.inr (.inr s4)))
else((i64 (s4+(1:Int))).bind λ v17=>
some (.inl v17)))
else(some (.inr (.inl ())))
def Jj(x0:List Str)(x1:Str):Option Int:=
Option.bind (α:=Unit⊕Int) (zR (λ s4=>zcU x0 x1 s4) (0:Int)) (Sum.elim (λ _b2=>
some (-1:Int)) some)
theorem spec_textAt_w{x0:List Str}{r:Int}(h:Jj x0 x1=some r):Fn prog 315 [dt x0,dt x1] (dt r):=by
 refine fq1 0 func315 λ M w0 _ j=>?_
 refine j.q1 (λ j=>za ?_)
 refine j.jb [] (λ _=>[]) h (λ o2 p2 k2=>?_) λ b2 _ _ j h=>?_
 ·refine j.q1 λ j=>?_
  refine j.lp [0,1] (λ s4=>[(5,dt s4)]) p2 λ s4 x4 _ _ j h hx4=>?_
  refine j.qc h (λ j h=>?_) λ j h=>?_
  ·have⟨v9,p9,h⟩:=bs h
   refine j.qc h (λ j h=>?_) λ j h=>?_
   ·exact j.e1 (jo (lo h hx4) k2)
   have⟨v17,p17,h⟩:=bs h
   exact j.n1 [] h
  have h:=lo h hx4
  exact flz h
 exact j.e1 h
instance:Ct2 prog 315 dt dt dt Jj:=⟨λ h=>spec_textAt_w h⟩
def QU(x0:List Str)(x1:Str):Option Bool:=
(Jj x0 x1).bind λ v2=>
some (cmpI .geq v2 0)
theorem zdZ{x0:List Str}(h:QU x0 x1=some r):Fn prog 282 [dt x0,dt x1] (dt r):=by
 refine fq1 0 func282 λ M _ _ j=>?_
 refine j.q1 λ j=>?_
 have⟨v2,p2,h⟩:=bs h
 exact j.e1 h
instance:Ct2 prog 282 dt dt dt QU:=⟨λ h=>zdZ h⟩
def zaK(x0:Str)(s10:Int):Option (Int⊕(Unit⊕Bool)):=
if(cmpI .lss s10 (x0.l.length:Int))=true then((atI x0.l s10).bind λ v15=>
(gO (cmpB .lss v15 (UInt8.ofNat 97) == false) (atI x0.l s10)).bind λ v16=>
if(cmpB .lss v15 (UInt8.ofNat 97)||cmpB .gtr v16 (UInt8.ofNat 122))=true then(some (.inr (.inr false)))
else((i64 (s10+(1:Int))).bind λ v25=>
some (.inl v25)))
else(some (.inr (.inl ())))
def JF(x0:Str):Option Bool:=
(Z1 (x0.l.length:Int) (1:Int) (3:Int)).bind λ v2=>
if(!v2)=true then(some false)
else(Option.bind (α:=Unit⊕Bool) (zR (λ s10=>zaK x0 s10) (0:Int)) (Sum.elim (λ _b8=>
some true) some))
theorem zcV(h:JF x0=some r):Fn prog 165 [dt x0] (dt r):=by
 refine fq1 0 func165 λ M w0 _ j=>?_
 refine j.q1 λ j=>?_
 have⟨v2,p2,h⟩:=bs h
 refine j.qc h (λ j h=>?_) λ j h=>?_
 ·exact j.e1 h
 refine wqk ?_
 refine za ?_
 refine j.jb [] (λ _=>[]) h (λ o8 p8 k8=>?_) λ b8 _ _ j h=>?_
 ·refine j.q1 λ j=>?_
  refine j.lp [0] (λ s10=>[(3,dt s10)]) p8 λ s10 x10 _ _ j h hx10=>?_
  refine j.qc h (λ j h=>?_) λ j h=>?_
  ·have⟨v15,p15,h⟩:=bs h
   have⟨v16,p16,h⟩:=bs h
   refine j.qc h (λ j h=>?_) λ j h=>?_
   ·exact j.e1 (jo (lo h hx10) k8)
   have⟨v25,p25,h⟩:=bs h
   exact j.n1 [] h
  have h:=lo h hx10
  exact flz h
 exact j.e1 h
instance:Ct1 prog 165 dt dt JF:=⟨λ h=>zcV h⟩
def qG(x0:Str)(s4:Int):Option (Int⊕(Unit⊕Bool)):=
if(cmpI .lss s4 (x0.l.length:Int))=true then((atI x0.l s4).bind λ v10=>
(gO (cmpB .lss v10 (UInt8.ofNat 97) == false) (atI x0.l s4)).bind λ v11=>
if(cmpB .lss v10 (UInt8.ofNat 97)||cmpB .gtr v11 (UInt8.ofNat 122))=true then(some (.inr (.inr false)))
else((i64 (s4+(1:Int))).bind λ v20=>
some (.inl v20)))
else(some (.inr (.inl ())))
def y9(x0:Str):Option Bool:=
Option.bind (α:=Unit⊕Bool) (zR (λ s4=>qG x0 s4) (0:Int)) (Sum.elim (λ _b2=>
(yZ (x0.l.length:Int) (1:Int) (3:Int)).bind λ v25=>
some v25) some)
theorem jC(h:y9 x0=some r):Fn prog 149 [dt x0] (dt r):=by
 refine fq1 0 func149 λ M w0 _ j=>?_
 refine j.q1 (λ j=>za ?_)
 refine j.jb [0] (λ _=>[]) h (λ o2 p2 k2=>?_) λ b2 _ _ j h=>?_
 ·refine j.q1 λ j=>?_
  refine j.lp [0,5] (λ s4=>[(6,dt s4)]) p2 λ s4 x4 _ _ j h hx4=>?_
  refine j.qc h (λ j h=>?_) λ j h=>?_
  ·refine j.q1 λ j=>?_
   have⟨v10,p10,v11,p11,h⟩:=Kg h
   refine j.qc h (λ j h=>?_) λ j h=>?_
   ·exact j.e1 (jo (lo h hx4) k2)
   have⟨v20,p20,h⟩:=bs h
   exact j.n1 [] h
  have h:=lo h hx4
  exact flz h
 have⟨v25,p25,h⟩:=bs h
 exact j.e1 h
instance:Ct1 prog 149 dt dt y9:=⟨λ h=>jC h⟩
def wJ(x0:List Int)(x1:Int)(s4:Int):Option (Int⊕(Unit⊕Int)):=
if(cmpI .lss s4 (x0.length:Int))=true then((atI x0 s4).bind λ v10=>
if cmpI .eql x1 v10 then(some (.inr (.inr s4)))
else((i64 (s4+(1:Int))).bind λ v18=>
some (.inl v18)))
else(some (.inr (.inl ())))
def wx(x0:List Int)(x1:Int):Option Int:=
Option.bind (α:=Unit⊕Int) (zR (λ s4=>wJ x0 x1 s4) (0:Int)) (Sum.elim (λ _b2=>
some (-1:Int)) some)
theorem J5{x0:List Int}{x1:Int}{r:Int}(h:wx x0 x1=some r):Fn prog 151 [dt x0,dt x1] (dt r):=by
 refine fq1 0 func151 λ M w0 _ j=>?_
 refine j.q1 (λ j=>za ?_)
 refine j.jb [] (λ _=>[]) h (λ o2 p2 k2=>?_) λ b2 _ _ j h=>?_
 ·refine j.q1 λ j=>?_
  refine j.lp [0,1,7] (λ s4=>[(8,dt s4)]) p2 λ s4 x4 _ _ j h hx4=>?_
  refine j.qc h (λ j h=>?_) λ j h=>?_
  ·refine j.q1 λ j=>?_
   have⟨v10,p10,h⟩:=bs h
   refine j.qc h (λ j h=>?_) λ j h=>?_
   ·exact j.e1 (jo (lo h hx4) k2)
   have⟨v18,p18,h⟩:=bs h
   exact j.n1 [] h
  have h:=lo h hx4
  exact flz h
 exact j.e1 h
instance:Ct2 prog 151 dt dt dt wx:=⟨λ h=>J5 h⟩
def yR(x0:List Str)(x1:Str)(s4:Int):Option (Int⊕(Unit⊕Int)):=
if(cmpI .lss s4 (x0.length:Int))=true then((atI x0 s4).bind λ v10=>
if(decide (x1=v10))=true then(some (.inr (.inr s4)))
else((i64 (s4+(1:Int))).bind λ v18=>
some (.inl v18)))
else(some (.inr (.inl ())))
def wc(x0:List Str)(x1:Str):Option Int:=
Option.bind (α:=Unit⊕Int) (zR (λ s4=>yR x0 x1 s4) (0:Int)) (Sum.elim (λ _b2=>
some (-1:Int)) some)
theorem X7{x0:List Str}{r:Int}(h:wc x0 x1=some r):Fn prog 268 [dt x0,dt x1] (dt r):=by
 refine fq1 0 func268 λ M w0 _ j=>?_
 refine j.q1 (λ j=>za ?_)
 refine j.jb [] (λ _=>[]) h (λ o2 p2 k2=>?_) λ b2 _ _ j h=>?_
 ·refine j.q1 λ j=>?_
  refine j.lp [0,1,7] (λ s4=>[(8,dt s4)]) p2 λ s4 x4 _ _ j h hx4=>?_
  refine j.qc h (λ j h=>?_) λ j h=>?_
  ·refine j.q1 λ j=>?_
   have⟨v10,p10,h⟩:=bs h
   refine j.qc h (λ j h=>?_) λ j h=>?_
   ·exact j.e1 (jo (lo h hx4) k2)
   have⟨v18,p18,h⟩:=bs h
   exact j.n1 [] h
  have h:=lo h hx4
  exact flz h
 exact j.e1 h
instance:Ct2 prog 268 dt dt dt wc:=⟨λ h=>X7 h⟩
def xN(x0:List Int)(x1:Int):Option Bool:=
(wx x0 x1).bind λ v2=>
some (cmpI .geq v2 0)
theorem Yr{x0:List Int}{x1:Int}(h:xN x0 x1=some r):Fn prog 90 [dt x0,dt x1] (dt r):=by
 refine fq1 0 func90 λ M _ _ j=>?_
 refine j.q1 λ j=>?_
 have⟨v2,p2,h⟩:=bs h
 exact j.e1 h
instance:Ct2 prog 90 dt dt dt xN:=⟨λ h=>Yr h⟩
def yp(x0:List Str)(x1:Str):Option Bool:=
(wc x0 x1).bind λ v2=>
some (cmpI .geq v2 0)
theorem qD{x0:List Str}(h:yp x0 x1=some r):Fn prog 217 [dt x0,dt x1] (dt r):=by
 refine fq1 0 func217 λ M _ _ j=>?_
 refine j.q1 λ j=>?_
 have⟨v2,p2,h⟩:=bs h
 exact j.e1 h
instance:Ct2 prog 217 dt dt dt yp:=⟨λ h=>qD h⟩
theorem kE64:elB prog 64 9 1 16=true:=by kernel_rfl
theorem kZ9:wk prog 9=some Y2:=by kernel_rfl
def xi(x0:Str)(x1:Str):Option Bool:=
(gO (cmpI .geq (x0.l.length:Int) (x1.l.length:Int) == true) (cutHO x0 (x1.l.length:Int))).bind λ v2=>
some (cmpI .geq (x0.l.length:Int) (x1.l.length:Int)&&decide (v2=x1))
theorem Xi(h:xi x0 x1=some r):Fn prog 312 [dt x0,dt x1] (dt r):=by
 refine fq1 0 func312 λ M _ _ j=>?_
 refine j.q1 λ j=>?_
 have⟨v2,p2,h⟩:=bs h
 exact j.e1 h
instance:Ct2 prog 312 dt dt dt xi:=⟨λ h=>Xi h⟩
def jq(x0:Str)(x1:Str):Option Bool:=
(xi x0 x1).bind λ v2=>
some v2
theorem Wd(h:jq x0 x1=some r):Fn prog 277 [dt x0,dt x1] (dt r):=by
 refine fq1 0 func277 λ M _ _ j=>?_
 refine j.q1 λ j=>?_
 have⟨v2,p2,h⟩:=bs h
 exact j.e1 h
instance:Ct2 prog 277 dt dt dt jq:=⟨λ h=>Wd h⟩
def z9(x0:Str)(x1:UInt8)(s6:Int):Option (Int⊕(Unit⊕Int)):=
if cmpI .geq s6 0 then((atI x0.l s6).bind λ v11=>
if(cmpB .eql v11 x1)=true then(some (.inr (.inr s6)))
else((i64 (s6 - (1:Int))).bind λ v19=>
some (.inl v19)))
else(some (.inr (.inl ())))
def yI(x0:Str)(x1:UInt8):Option Int:=
Option.bind (α:=Unit⊕Int) ((i64 ((x0.l.length:Int) - (1:Int))).bind λ v3=>
zR (λ s6=>z9 x0 x1 s6) v3) (Sum.elim (λ _b2=>
some (-1:Int)) some)
theorem Z2{x1:UInt8}{r:Int}(h:yI x0 x1=some r):Fn prog 218 [dt x0,dt x1] (dt r):=by
 refine fq1 0 func218 λ M w0 _ j=>?_
 refine j.q1 (λ j=>za ?_)
 refine j.jb [] (λ _=>[]) h (λ o2 p2 k2=>?_) λ b2 _ _ j h=>?_
 ·have⟨v3,p3,h⟩:=bs p2
  refine j.q1 λ j=>?_
  refine j.lp [0,1] (λ s6=>[(5,dt s6)]) h λ s6 x6 _ _ j h hx6=>?_
  refine j.qc h (λ j h=>?_) λ j h=>?_
  ·have⟨v11,p11,h⟩:=bs h
   refine j.qc h (λ j h=>?_) λ j h=>?_
   ·exact j.e1 (jo (lo h hx6) k2)
   have⟨v19,p19,h⟩:=bs h
   exact j.n1 [] h
  have h:=lo h hx6
  exact flz h
 exact j.e1 h
instance:Ct2 prog 218 dt dt dt yI:=⟨λ h=>Z2 h⟩
def zY(x0:Str)(x1:UInt8):Option Int:=
(yI x0 x1).bind λ v2=>
some v2
theorem JG{x1:UInt8}{r:Int}(h:zY x0 x1=some r):Fn prog 157 [dt x0,dt x1] (dt r):=by
 refine fq1 0 func157 λ M _ _ j=>?_
 refine j.q1 λ j=>?_
 have⟨v2,p2,h⟩:=bs h
 exact j.e1 h
instance:Ct2 prog 157 dt dt dt zY:=⟨λ h=>JG h⟩
def wL(x1:Str)(x2:Int)(v30:Int)(s35:Str×(List Str)×Int):Option ((Str×(List Str)×Int)⊕(Str×(List Str)×Int)):=
if cmpI .lss s35.2.2 v30 then((wD s35.1 x1).bind λ v40=>
if cmpI .lss v40 0 then(some (.inr (s35.1,s35.2.1,s35.2.2)))
else((i64 (v40+x2)).bind λ v47=>
(cutHO s35.1 v47).bind λ v48=>
(atI s35.2.1 s35.2.2).bind λ _v49=>
(setO s35.2.1 s35.2.2 v48).bind λ v55=>
(i64 (v40+(x1.l.length:Int))).bind λ v57=>
(cutLO s35.1 v57).bind λ v58=>
(i64 (s35.2.2+(1:Int))).bind λ v62=>
some (.inl (v58,v55,v62))))
else(some (.inr (s35.1,s35.2.1,s35.2.2)))
def Zi(x0:Str)(x1:Str)(x2:Int)(x3:Int):Option (List Str):=
if cmpI .eql x3 0 then(some ([]:List Str))
else(if(decide (x1=(⟨[]⟩:Str)))=true then((Xg x0 x3).bind λ v9=>
some v9)
else(Option.bind (α:=Int) (if cmpI .lss x3 0 then((Zs x0 x1).bind λ v16=>
(i64 (v16+(1:Int))).bind λ v17=>
some v17)
else(some x3)) λ o12=>
(i64 ((x0.l.length:Int)+(1:Int))).bind λ v22=>
(makeO 1 16 (if v22<o12 then v22 else o12) zStr).bind λ v27=>
(i64 ((if v22<o12 then v22 else o12) - (1:Int))).bind λ v30=>
Option.bind (α:=Str×(List Str)×Int) (zR (λ s35=>wL x1 x2 v30 s35) (x0,v27,(0:Int))) λ o34=>
(atI o34.2.1 o34.2.2).bind λ _v67=>
(setO o34.2.1 o34.2.2 o34.1).bind λ v71=>
(i64 (o34.2.2+(1:Int))).bind λ v74=>
(QI v71 v74).bind λ v75=>
some v75))
theorem zbs{r:List Str}(h:Zi x0 x1 x2 x3=some r):Fn prog 192 [dt x0,dt x1,dt x2,dt x3] (dt r):=by
 refine fq1 1 func192 λ M w0 _ j=>?_
 refine j.q1 (λ j=>?_) (hs:=sc Z (oA Z (qE (α:=Str)))<|.nil)
 refine j.qc h (λ j h=>?_) λ j h=>?_
 ·exact j.e1 h (hs:=sc Z (oA Z (qE (α:=Str)))<|.nil)
 refine j.qc h (λ j h=>?_) λ j h=>?_
 ·have⟨v9,p9,h⟩:=bs h
  exact j.e1 h
 refine wqk ?_
 refine za ?_
 refine j.jmq 1 [0,1,2] (λ o12=>[(3,dt o12)]) (λ _ _=>[]) h (λ o12 p12=>?_) λ o12 q12 _ _ _ j h=>?_
 ·refine j.qc p12 (λ j h=>?_) λ j h=>?_
  ·have⟨v16,p16,h⟩:=bs h
   have⟨v17,p17,h⟩:=bs h
   refine j.q1 λ j=>?_
   cases h
   exact fz
  cases h
  exact fz
 have⟨v22,p22,h⟩:=bs h
 refine j.q1 (λ j=>Ka ?_)
 refine j.g1 1 λ _ _ j=>?_
 have⟨v27,p27,h⟩:=bs h
 refine j.make 0 Z Z kE64 kZ9 XX Z (gl Z) p27 [0,1,2,3] Z [] Z Z λ g26 _ _ _ j=>?_
 refine j.go_ 1 [(9,0)] (λ _ _ j=>Kb ?_)
 have⟨v30,p30,h⟩:=bs h
 refine j.qo [(9,0)] λ _ _ j=>?_
 refine j.qo [(9,0)] (λ _ _ j=>za ?_)
 refine j.jmq 1 [] (λ o34=>[(0,dt o34.1),(10,dt o34.2.2)]) (λ o34 q=>[(9,0,dtip (q 0) 9 o34.2.1)]) h (λ o34 p34=>?_) λ o34 q34 _ _ _ j h=>?_
 ·refine j.lpq 1 [1,2,3] (λ s35=>[(0,dt s35.1),(10,dt s35.2.2)]) (λ s35 q=>[(9,0,dtip (q 0) 9 s35.2.1)]) p34 λ s35 x35 q35 _ _ _ j h hx35=>?_
  refine j.qd [(9,0)] h (λ _ _ j h=>?_) λ _ _ j h=>?_
  ·have⟨v40,p40,h⟩:=bs h
   refine j.qo [(9,0)] λ _ _ j=>?_
   refine j.qd [(9,0)] h (λ _ _ j h=>?_) λ _ _ j h=>?_
   ·have h:=lo h hx35
    cases h
    exact fz
   refine Ka ?_
   have⟨v47,p47,v48,p48,h⟩:=Kg h
   have⟨v49,p49,h⟩:=bs h
   refine j.go_ 8 [(9,0),(49,0)] (λ _ _ j=>?_) (hs:=sc Z (oM Z T)<|
     sc Z (oM Z T)<|
     sc Z (oM Z T)<|
     sc Z (oM Z T)<|
     sc Z (oM Z T)<|
     sc Z (xAr Z T T p47)<|
     sc Z (xCutH Z T T p48)<|
     sc Z (xIdxT Z kS64 T T p49)<|.nil)
   have⟨v55,p55,h⟩:=bs h
   refine j.storeT (sb:=9) 0 (tp Z) p55 [0,1,2,3,10,11] [] (λ _ _ j=>Kb ?_)
   have⟨v57,p57,v58,p58,h⟩:=Kg h
   refine j.qo [(9,0)] λ _ _ j=>?_
   have⟨v62,p62,h⟩:=bs h
   exact j.n1 [(9,0)] h
  have h:=lo h hx35
  cases h
  exact fz
 refine Ka ?_
 have⟨v67,p67,h⟩:=bs h
 refine j.go_ 4 [(9,0),(61,0)] (λ _ _ j=>?_) (hs:=sY 3 (r:=by exact sc Z (xIdxT Z kS64 T T p67)<|.nil))
 have⟨v71,p71,h⟩:=bs h
 refine j.storeT (sb:=9) 0 (tp Z) p71 [10] [] (λ _ _ j=>Kb ?_)
 have j:=j.frz 0 (s:=9) Z Z [10] Z [] Z
 have⟨v74,p74,v75,p75,h⟩:=Kg h
 exact j.e1 h (hs:=sY 3 (r:=by exact sc Z (xSliH Z T T p75)<|segY))
instance:Ct4 prog 192 dt dt dt dt dt Zi:=⟨λ h=>zbs h⟩
def yU(x0:Str)(x1:Str):Option (List Str):=
(Zi x0 x1 (0:Int) (-1:Int)).bind λ v2=>
some v2
theorem X8{r:List Str}(h:yU x0 x1=some r):Fn prog 127 [dt x0,dt x1] (dt r):=by
 refine fq1 0 func127 λ M _ _ j=>?_
 refine j.q1 (λ j=>?_) (hs:=sc Z (oA Z (qE (α:=Str)))<|.nil)
 have⟨v2,p2,h⟩:=bs h
 exact j.e1 h
instance:Ct2 prog 127 dt dt dt yU:=⟨λ h=>X8 h⟩
def qH(v2:List Str)(s7:Int):Option (Int⊕(Unit⊕Bool)):=
if(cmpI .lss s7 (v2.length:Int))=true then((atI v2 s7).bind λ v12=>
(y9 v12).bind λ v15=>
if(!v15)=true then(some (.inr (.inr false)))
else((i64 (s7+(1:Int))).bind λ v23=>
some (.inl v23)))
else(some (.inr (.inl ())))
def zZ(x0:Str):Option Bool:=
(yU x0 (⟨[46]⟩:Str)).bind λ v2=>
Option.bind (α:=Unit⊕Bool) (zR (λ s7=>qH v2 s7) (0:Int)) (Sum.elim (λ _b5=>
some (cmpI .leq (v2.length:Int) 3)) some)
theorem xa(h:zZ x0=some r):Fn prog 91 [dt x0] (dt r):=by
 refine fq1 0 func91 λ M w0 _ j=>?_
 refine j.q1 λ j=>?_
 have⟨v2,p2,h⟩:=bs h
 refine j.q1 (λ j=>za ?_)
 refine j.jb [3] (λ _=>[]) h (λ o5 p5 k5=>?_) λ b5 _ _ j h=>?_
 ·refine j.q1 λ j=>?_
  refine j.lp [3,8,9] (λ s7=>[(10,dt s7)]) p5 λ s7 x7 _ _ j h hx7=>?_
  refine j.qc h (λ j h=>?_) λ j h=>?_
  ·have⟨v12,p12,h⟩:=bs h
   refine j.q1 λ j=>?_
   have⟨v15,p15,h⟩:=bs h
   refine j.qc h (λ j h=>?_) λ j h=>?_
   ·exact j.e1 (jo (lo h hx7) k5)
   have⟨v23,p23,h⟩:=bs h
   exact j.n1 [] h
  have h:=lo h hx7
  exact flz h
 exact j.e1 h
instance:Ct1 prog 91 dt dt zZ:=⟨λ h=>xa h⟩
def xG(x0:Str):Option Bool:=
(gO (decide (x0=(⟨[]⟩:Str)) == false) (zZ x0)).bind λ v2=>
some (decide (x0=(⟨[]⟩:Str))||v2)
theorem jD(h:xG x0=some r):Fn prog 147 [dt x0] (dt r):=by
 refine fq1 0 func147 λ M _ _ j=>?_
 refine j.q1 λ j=>?_
 have⟨v2,p2,h⟩:=bs h
 exact j.e1 h (hs:=sY 4 (r:=by exact sg Z Z (λ hg=>oK (xa (gh hg p2)))<|segY))
instance:Ct1 prog 147 dt dt xG:=⟨λ h=>jD h⟩
def jL(x0:Str):Option (List Str):=
(zZ x0).bind λ v2=>
if(!v2)=true then(some ([]:List Str))
else((yU x0 (⟨[46]⟩:Str)).bind λ v8=>
some v8)
theorem Xj{r:List Str}(h:jL x0=some r):Fn prog 260 [dt x0] (dt r):=by
 refine fq1 0 func260 λ M _ _ j=>?_
 refine j.q1 (λ j=>?_) (hs:=sc Z (oA Z (qE (α:=Str)))<|.nil)
 have⟨v2,p2,h⟩:=bs h
 refine j.qc h (λ j h=>?_) λ j h=>?_
 ·exact j.e1 h (hs:=sc Z (xO (opds:=[]) (α:=Str) Z Z Z .nil)<|segY)
 have⟨v8,p8,h⟩:=bs h
 exact j.e1 h
instance:Ct1 prog 260 dt dt jL:=⟨λ h=>Xj h⟩
def xz(x0:Str):Option Str:=
(zY x0 (UInt8.ofNat 46)).bind λ v2=>
(zZ x0).bind λ v5=>
if((!v5)||cmpI .lss v2 0)=true then(some (⟨[]⟩:Str))
else((cutHO x0 v2).bind λ v11=>
some v11)
theorem zdE{r:Str}(h:xz x0=some r):Fn prog 95 [dt x0] (dt r):=by
 refine fq1 0 func95 λ M _ _ j=>?_
 refine j.q1 λ j=>?_
 have⟨v2,p2,h⟩:=bs h
 refine j.q1 λ j=>?_
 have⟨v5,p5,h⟩:=bs h
 refine j.qc h (λ j h=>?_) (λ j h=>?_) (hs:=sc Z (oM Z T)<|
  sc Z (zz (l:=[.tmp 6]) Z (.cons T .nil) (xa p5))<|
  sc Z (jY Z T)<|
  sc Z (oM Z T)<|
  sg Z Z (λ hg=>oM Z T)<|
  sg Z Z (λ hg=>oCI Z V cI)<|
  sc Z (ZO Z T T)<|.nil)
 ·exact j.e1 h
 have⟨v11,p11,h⟩:=bs h
 exact j.e1 h
instance:Ct1 prog 95 dt dt xz:=⟨λ h=>zdE h⟩
def jy(x0:Str):Option Str:=
(zZ x0).bind λ v2=>
if(!v2)=true then(some (⟨[]⟩:Str))
else((zY x0 (UInt8.ofNat 46)).bind λ v8=>
(i64 (v8+(1:Int))).bind λ v9=>
(cutLO x0 v9).bind λ v10=>
some v10)
theorem Jk{r:Str}(h:jy x0=some r):Fn prog 156 [dt x0] (dt r):=by
 refine fq1 0 func156 λ M _ _ j=>?_
 refine j.q1 λ j=>?_
 have⟨v2,p2,h⟩:=bs h
 refine j.qc h (λ j h=>?_) λ j h=>?_
 ·exact j.e1 h
 have⟨v8,p8,v9,p9,h⟩:=Kg h
 have⟨v10,p10,h⟩:=bs h
 exact j.e1 h
instance:Ct1 prog 156 dt dt jy:=⟨λ h=>Jk h⟩
def x9(x0:Str)(x1:Str):Option Str:=
(xG x0).bind λ v2=>
(gO ((!v2) == false) (y9 x1)).bind λ v3=>
if((!v2)||(!v3))=true then(some (⟨[]⟩:Str))
else(Option.bind (α:=Str) (if(decide (x0≠(⟨[]⟩:Str)))=true then((catO x0 (⟨[46]⟩:Str)).bind λ v14=>
(catO v14 x1).bind λ v15=>
some v15)
else(some x1)) λ o10=>
(zZ o10).bind λ v20=>
if(!v20)=true then(some (⟨[]⟩:Str))
else(some o10))
theorem WL{r:Str}(h:x9 x0 x1=some r):Fn prog 150 [dt x0,dt x1] (dt r):=by
 refine fq1 0 func150 λ M w0 _ j=>?_
 refine j.q1 λ j=>?_
 have⟨v2,p2,v3,p3,h⟩:=Kg h
 refine j.qc h (λ j h=>?_) (λ j h=>?_) (hs:=sY 1 (r:=by exact sc Z (oK (jD p2))<|sY 3 (r:=by exact sg Z Z (λ hg=>oK (jC (gh hg p3)))<|segY)))
 ·exact j.e1 h
 refine wqk ?_
 refine za ?_
 refine j.jm [] (λ o10=>[(1,dt o10)]) h (λ o10 p10=>?_) λ o10 _ _ j h=>?_
 ·refine j.qc p10 (λ j h=>?_) λ j h=>?_
  ·have⟨v14,p14,h⟩:=bs h
   have⟨v15,p15,h⟩:=bs h
   refine j.q1 λ j=>?_
   obtain rfl:=Option.some.inj h
   exact fz
  obtain rfl:=Option.some.inj h
  exact fz
 have⟨v20,p20,h⟩:=bs h
 refine j.qc h (λ j h=>?_) λ j h=>?_
 ·exact j.e1 h
 exact j.e1 h
instance:Ct2 prog 150 dt dt dt x9:=⟨λ h=>WL h⟩
def Z3(x0:Str)(x1:Str):Option Bool:=
(zZ x0).bind λ v2=>
(gO ((!v2) == false) (xG x1)).bind λ v3=>
if((!v2)||(!v3))=true then(some false)
else((gO ((decide (x1=(⟨[]⟩:Str))||decide (x0=x1)) == false) (catO x1 (⟨[46]⟩:Str))).bind λ v10=>
(gO ((decide (x1=(⟨[]⟩:Str))||decide (x0=x1)) == false) (jq x0 v10)).bind λ v11=>
some ((decide (x1=(⟨[]⟩:Str))||decide (x0=x1))||v11))
theorem QV(h:Z3 x0 x1=some r):Fn prog 238 [dt x0,dt x1] (dt r):=by
 refine fq1 0 func238 λ M _ _ j=>?_
 refine j.q1 λ j=>?_
 have⟨v2,p2,v3,p3,h⟩:=Kg h
 refine j.qc h (λ j h=>?_) (λ j h=>?_) (hs:=sc Z (oM Z T)<|
  sc Z (zz (l:=[.tmp 5]) Z (.cons T .nil) (xa p2))<|
  sc Z (jY Z T)<|
  sc Z (oM Z T)<|
  sg Z Z (λ hg=>oM Z T)<|
  sg Z Z (λ hg=>zz (l:=[.tmp 9]) Z (.cons V .nil) (jD (gh hg p3)))<|
  sg Z Z (λ hg=>jY Z V)<|
  sc Z (ZO Z T T)<|.nil)
 ·exact j.e1 h
 have⟨v10,p10,v11,p11,h⟩:=Kg h
 exact j.e1 h (hs:=sc Z (oM Z T)<|
  sc Z (ji Z T (zL))<|
  sc Z (oM Z T)<|
  sg Z Z (λ hg=>oM Z T)<|
  sg Z Z (λ hg=>oM Z T)<|
  sg Z Z (λ hg=>ji Z V V)<|
  sc Z (ZO Z T T)<|
  sc Z (oM Z T)<|
  sg Z Z (λ hg=>oM Z T)<|
  sg Z Z (λ hg=>oM Z T)<|
  sg Z Z (λ hg=>xCat Z V (zL) (gh hg p10))<|
  sg Z Z (λ hg=>zz (l:=[.tmp 21,.tmp 23]) Z (.cons V (.cons V .nil)) (Wd (gh hg p11)))<|
  sc Z (ZO Z T T)<|
  sc Z (oA Z T)<|.nil)
instance:Ct2 prog 238 dt dt dt Z3:=⟨λ h=>QV h⟩
end Go.Proofs.YtbbfcjifihknnaaGreatDoor
