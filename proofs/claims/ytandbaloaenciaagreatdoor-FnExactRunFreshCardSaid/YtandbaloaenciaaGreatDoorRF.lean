import Derived.Test.YtandbaloaenciaaGreatDoorRC
import Derived.Test.YtandbaloaenciaaGreatDoorRB
import Derived.Test.YtandbaloaenciaaGreatDoorProg
namespace Go.Proofs.YtandbaloaenciaaGreatDoor
open Go.RowKit Tryz
attribute [local irreducible] OpRel OpdR
set_option maxRecDepth 10000
variable{r:Bool}{x2 x3:Int}{x0 x1:Str}
theorem zL:prog.follows .mixedOrders=true:=by kernel_rfl
theorem kF59_0:fldB prog 59 0 0=true:=by kernel_rfl
theorem kF59_1:fldB prog 59 1 1=true:=by kernel_rfl
theorem kF59_3:fldB prog 59 3 3=true:=by kernel_rfl
theorem kF59_2:fldB prog 59 2 2=true:=by kernel_rfl
theorem kL120:isSl prog 120=true:=by kernel_rfl
theorem Jr:slB prog 120 1=true:=by kernel_rfl
theorem kL25:isSl prog 25=true:=by kernel_rfl
theorem kS25:slB prog 25 1=true:=by kernel_rfl
def z7(x0:Int)(x1:Int)(x2:Int):Option Bool:=
some (cmpI .leq x1 x0&&cmpI .leq x0 x2)
theorem ym{x0:Int}{x1:Int}(h:z7 x0 x1 x2=some r):Fn prog 72 [dt x0,dt x1,dt x2] (dt r):=by
 refine fq1 0 func72 λ M _ _ j=>?_
 refine j.q1 λ _ _ j=>?_
 exact j.e1 h
instance:Ct3 prog 72 dt dt dt dt z7:=⟨λ h=>ym h⟩
def yb(x0:Int)(x1:Int)(x2:Int):Option Bool:=
some (cmpI .geq x0 x1&&cmpI .leq x0 x2)
theorem yP{x0:Int}{x1:Int}(h:yb x0 x1 x2=some r):Fn prog 47 [dt x0,dt x1,dt x2] (dt r):=by
 refine fq1 0 func47 λ M _ _ j=>?_
 refine j.q1 λ _ _ j=>?_
 exact j.e1 h
instance:Ct3 prog 47 dt dt dt dt yb:=⟨λ h=>yP h⟩
def QE(x0:File)(x1:File):Option Bool:=
some (((cmpI .eql x0.root x1.root&&decide (x0.pkg=x1.pkg))&&(x0.init == x1.init))&&decide (x0.name=x1.name))
theorem zdg{x0:File}{x1:File}(h:QE x0 x1=some r):Fn prog 160 [dt x0,dt x1] (dt r):=by
 refine fq1 0 func160 λ M _ _ j=>?_
 refine j.q1 λ _ _ j=>?_
 exact j.e1 h
instance:Ct2 prog 160 dt dt dt QE:=⟨λ h=>zdg h⟩
def qY(x0:File)(x1:File):Option Bool:=
some (((cmpI .eql x0.root x1.root&&decide (x0.pkg=x1.pkg))&&(x0.init == x1.init))&&decide (x0.name=x1.name))
theorem zcI{x0:File}{x1:File}(h:qY x0 x1=some r):Fn prog 88 [dt x0,dt x1] (dt r):=by
 refine fq1 0 func88 λ M _ _ j=>?_
 refine j.q1 λ _ _ j=>?_
 exact j.e1 h
instance:Ct2 prog 88 dt dt dt qY:=⟨λ h=>zcI h⟩
def zcJ(x0:List Str)(x1:Str)(s4:Int):Option (Int⊕(Unit⊕Int)):=
if(cmpI .lss s4 (x0.length:Int))=true then((atI x0 s4).bind λ v9=>
if(decide (v9=x1))=true then(some (.inr (.inr s4)))
else((i64 (s4+(1:Int))).bind λ v17=>
some (.inl v17)))
else(some (.inr (.inl ())))
def JE(x0:List Str)(x1:Str):Option Int:=
Option.bind (α:=Unit⊕Int) (zE (λ s4=>zcJ x0 x1 s4) (0:Int)) (Sum.elim (λ _b2=>
some (-1:Int)) some)
theorem spec_textAt_w{x0:List Str}{r:Int}(h:JE x0 x1=some r):Fn prog 235 [dt x0,dt x1] (dt r):=by
 refine fq1 0 func235 λ M w0 _ j=>?_
 refine j.q1 (λ _ _ j=>za ?_)
 refine j.jb [] (λ _=>[]) h (λ o2 p2 k2=>?_) λ b2 _ _ j h=>?_
 ·refine j.q1 λ _ _ j=>?_
  refine j.lp [0,1] (λ s4=>[(5,dt s4)]) p2 λ s4 x4 _ _ j h hx4=>?_
  refine j.qc h (λ _ _ j h=>?_) λ _ _ j h=>?_
  ·have⟨v9,p9,h⟩:=bs h
   refine j.qc h (λ _ _ j h=>?_) λ _ _ j h=>?_
   ·exact j.e1 (jo (lo h hx4) k2)
   have⟨v17,p17,h⟩:=bs h
   exact j.n1 [] h
  have h:=lo h hx4
  exact flz h
 exact j.e1 h
instance:Ct2 prog 235 dt dt dt JE:=⟨λ h=>spec_textAt_w h⟩
def Q8(x0:List Str)(x1:Str):Option Bool:=
(JE x0 x1).bind λ v2=>
some (cmpI .geq v2 0)
theorem zdA{x0:List Str}(h:Q8 x0 x1=some r):Fn prog 215 [dt x0,dt x1] (dt r):=by
 refine fq1 0 func215 λ M _ _ j=>?_
 refine j.q1 λ _ _ j=>?_
 have⟨v2,p2,h⟩:=bs h
 exact j.e1 h
instance:Ct2 prog 215 dt dt dt Q8:=⟨λ h=>zdA h⟩
def qI(x0:Str)(s10:Int):Option (Int⊕(Unit⊕Bool)):=
if(cmpI .lss s10 (x0.l.length:Int))=true then((atI x0.l s10).bind λ v15=>
(gO (cmpB .lss v15 (UInt8.ofNat 97) == false) (atI x0.l s10)).bind λ v16=>
if(cmpB .lss v15 (UInt8.ofNat 97)||cmpB .gtr v16 (UInt8.ofNat 122))=true then(some (.inr (.inr false)))
else((i64 (s10+(1:Int))).bind λ v25=>
some (.inl v25)))
else(some (.inr (.inl ())))
def xV(x0:Str):Option Bool:=
(z7 (x0.l.length:Int) (1:Int) (3:Int)).bind λ v2=>
if(!v2)=true then(some false)
else(Option.bind (α:=Unit⊕Bool) (zE (λ s10=>qI x0 s10) (0:Int)) (Sum.elim (λ _b8=>
some true) some))
theorem qZ(h:xV x0=some r):Fn prog 150 [dt x0] (dt r):=by
 refine fq1 0 func150 λ M w0 _ j=>?_
 refine j.q1 λ _ _ j=>?_
 have⟨v2,p2,h⟩:=bs h
 refine j.qc h (λ _ _ j h=>?_) λ _ _ j h=>?_
 ·exact j.e1 h
 refine wqk (za ?_)
 refine j.jb [] (λ _=>[]) h (λ o8 p8 k8=>?_) λ b8 _ _ j h=>?_
 ·refine j.q1 λ _ _ j=>?_
  refine j.lp [0] (λ s10=>[(3,dt s10)]) p8 λ s10 x10 _ _ j h hx10=>?_
  refine j.qc h (λ _ _ j h=>?_) λ _ _ j h=>?_
  ·have⟨v15,p15,h⟩:=bs h
   have⟨v16,p16,h⟩:=bs h
   refine j.qc h (λ _ _ j h=>?_) λ _ _ j h=>?_
   ·exact j.e1 (jo (lo h hx10) k8)
   have⟨v25,p25,h⟩:=bs h
   exact j.n1 [] h
  have h:=lo h hx10
  exact flz h
 exact j.e1 h
instance:Ct1 prog 150 dt dt xV:=⟨λ h=>qZ h⟩
def qJ(x0:Str)(s4:Int):Option (Int⊕(Unit⊕Bool)):=
if(cmpI .lss s4 (x0.l.length:Int))=true then((atI x0.l s4).bind λ v10=>
(gO (cmpB .lss v10 (UInt8.ofNat 97) == false) (atI x0.l s4)).bind λ v11=>
if(cmpB .lss v10 (UInt8.ofNat 97)||cmpB .gtr v11 (UInt8.ofNat 122))=true then(some (.inr (.inr false)))
else((i64 (s4+(1:Int))).bind λ v20=>
some (.inl v20)))
else(some (.inr (.inl ())))
def y7(x0:Str):Option Bool:=
Option.bind (α:=Unit⊕Bool) (zE (λ s4=>qJ x0 s4) (0:Int)) (Sum.elim (λ _b2=>
(yb (x0.l.length:Int) (1:Int) (3:Int)).bind λ v25=>
some v25) some)
theorem jz(h:y7 x0=some r):Fn prog 128 [dt x0] (dt r):=by
 refine fq1 0 func128 λ M w0 _ j=>?_
 refine j.q1 (λ _ _ j=>za ?_)
 refine j.jb [0] (λ _=>[]) h (λ o2 p2 k2=>?_) λ b2 _ _ j h=>?_
 ·refine j.q1 λ _ _ j=>?_
  refine j.lp [0,5] (λ s4=>[(6,dt s4)]) p2 λ s4 x4 _ _ j h hx4=>?_
  refine j.qc h (λ _ _ j h=>?_) λ _ _ j h=>?_
  ·refine j.q1 λ _ _ j=>?_
   have⟨v10,p10,v11,p11,h⟩:=Kg h
   refine j.qc h (λ _ _ j h=>?_) λ _ _ j h=>?_
   ·exact j.e1 (jo (lo h hx4) k2)
   have⟨v20,p20,h⟩:=bs h
   exact j.n1 [] h
  have h:=lo h hx4
  exact flz h
 have⟨v25,p25,h⟩:=bs h
 exact j.e1 h
instance:Ct1 prog 128 dt dt y7:=⟨λ h=>jz h⟩
def wD(x0:List Int)(x1:Int)(s4:Int):Option (Int⊕(Unit⊕Int)):=
if(cmpI .lss s4 (x0.length:Int))=true then((atI x0 s4).bind λ v10=>
if cmpI .eql x1 v10 then(some (.inr (.inr s4)))
else((i64 (s4+(1:Int))).bind λ v18=>
some (.inl v18)))
else(some (.inr (.inl ())))
def wc(x0:List Int)(x1:Int):Option Int:=
Option.bind (α:=Unit⊕Int) (zE (λ s4=>wD x0 x1 s4) (0:Int)) (Sum.elim (λ _b2=>
some (-1:Int)) some)
theorem Qk{x0:List Int}{x1:Int}{r:Int}(h:wc x0 x1=some r):Fn prog 130 [dt x0,dt x1] (dt r):=by
 refine fq1 0 func130 λ M w0 _ j=>?_
 refine j.q1 (λ _ _ j=>za ?_)
 refine j.jb [] (λ _=>[]) h (λ o2 p2 k2=>?_) λ b2 _ _ j h=>?_
 ·refine j.q1 λ _ _ j=>?_
  refine j.lp [0,1,7] (λ s4=>[(8,dt s4)]) p2 λ s4 x4 _ _ j h hx4=>?_
  refine j.qc h (λ _ _ j h=>?_) λ _ _ j h=>?_
  ·refine j.q1 λ _ _ j=>?_
   have⟨v10,p10,h⟩:=bs h
   refine j.qc h (λ _ _ j h=>?_) λ _ _ j h=>?_
   ·exact j.e1 (jo (lo h hx4) k2)
   have⟨v18,p18,h⟩:=bs h
   exact j.n1 [] h
  have h:=lo h hx4
  exact flz h
 exact j.e1 h
instance:Ct2 prog 130 dt dt dt wc:=⟨λ h=>Qk h⟩
def yI(x0:List Str)(x1:Str)(s4:Int):Option (Int⊕(Unit⊕Int)):=
if(cmpI .lss s4 (x0.length:Int))=true then((atI x0 s4).bind λ v10=>
if(decide (x1=v10))=true then(some (.inr (.inr s4)))
else((i64 (s4+(1:Int))).bind λ v18=>
some (.inl v18)))
else(some (.inr (.inl ())))
def xM(x0:List Str)(x1:Str):Option Int:=
Option.bind (α:=Unit⊕Int) (zE (λ s4=>yI x0 x1 s4) (0:Int)) (Sum.elim (λ _b2=>
some (-1:Int)) some)
theorem Wu{x0:List Str}{r:Int}(h:xM x0 x1=some r):Fn prog 186 [dt x0,dt x1] (dt r):=by
 refine fq1 0 func186 λ M w0 _ j=>?_
 refine j.q1 (λ _ _ j=>za ?_)
 refine j.jb [] (λ _=>[]) h (λ o2 p2 k2=>?_) λ b2 _ _ j h=>?_
 ·refine j.q1 λ _ _ j=>?_
  refine j.lp [0,1,7] (λ s4=>[(8,dt s4)]) p2 λ s4 x4 _ _ j h hx4=>?_
  refine j.qc h (λ _ _ j h=>?_) λ _ _ j h=>?_
  ·refine j.q1 λ _ _ j=>?_
   have⟨v10,p10,h⟩:=bs h
   refine j.qc h (λ _ _ j h=>?_) λ _ _ j h=>?_
   ·exact j.e1 (jo (lo h hx4) k2)
   have⟨v18,p18,h⟩:=bs h
   exact j.n1 [] h
  have h:=lo h hx4
  exact flz h
 exact j.e1 h
instance:Ct2 prog 186 dt dt dt xM:=⟨λ h=>Wu h⟩
def xp(x0:List Int)(x1:Int):Option Bool:=
(wc x0 x1).bind λ v2=>
some (cmpI .geq v2 0)
theorem YB{x0:List Int}{x1:Int}(h:xp x0 x1=some r):Fn prog 89 [dt x0,dt x1] (dt r):=by
 refine fq1 0 func89 λ M _ _ j=>?_
 refine j.q1 λ _ _ j=>?_
 have⟨v2,p2,h⟩:=bs h
 exact j.e1 h
instance:Ct2 prog 89 dt dt dt xp:=⟨λ h=>YB h⟩
def yn(x0:List Str)(x1:Str):Option Bool:=
(xM x0 x1).bind λ v2=>
some (cmpI .geq v2 0)
theorem qH{x0:List Str}(h:yn x0 x1=some r):Fn prog 148 [dt x0,dt x1] (dt r):=by
 refine fq1 0 func148 λ M _ _ j=>?_
 refine j.q1 λ _ _ j=>?_
 have⟨v2,p2,h⟩:=bs h
 exact j.e1 h
instance:Ct2 prog 148 dt dt dt yn:=⟨λ h=>qH h⟩
theorem kE120:elB prog 120 9 1 16=true:=by kernel_rfl
theorem kZ9:zeroCells prog 9=some Xh:=by kernel_rfl
def xe(x0:Str)(x1:Str):Option Bool:=
(gO (cmpI .geq (x0.l.length:Int) (x1.l.length:Int) == true) (cutHO x0 (x1.l.length:Int))).bind λ v2=>
some (cmpI .geq (x0.l.length:Int) (x1.l.length:Int)&&decide (v2=x1))
theorem Xk(h:xe x0 x1=some r):Fn prog 244 [dt x0,dt x1] (dt r):=by
 refine fq1 0 func244 λ M _ _ j=>?_
 refine j.q1 λ _ _ j=>?_
 have⟨v2,p2,h⟩:=bs h
 exact j.e1 h
instance:Ct2 prog 244 dt dt dt xe:=⟨λ h=>Xk h⟩
def ji(x0:Str)(x1:Str):Option Bool:=
(xe x0 x1).bind λ v2=>
some v2
theorem Wz(h:ji x0 x1=some r):Fn prog 225 [dt x0,dt x1] (dt r):=by
 refine fq1 0 func225 λ M _ _ j=>?_
 refine j.q1 λ _ _ j=>?_
 have⟨v2,p2,h⟩:=bs h
 exact j.e1 h
instance:Ct2 prog 225 dt dt dt ji:=⟨λ h=>Wz h⟩
def zU(x0:Str)(x1:UInt8)(s6:Int):Option (Int⊕(Unit⊕Int)):=
if cmpI .geq s6 0 then((atI x0.l s6).bind λ v11=>
if(cmpB .eql v11 x1)=true then(some (.inr (.inr s6)))
else((i64 (s6 - (1:Int))).bind λ v19=>
some (.inl v19)))
else(some (.inr (.inl ())))
def yD(x0:Str)(x1:UInt8):Option Int:=
Option.bind (α:=Unit⊕Int) ((i64 ((x0.l.length:Int) - (1:Int))).bind λ v3=>
zE (λ s6=>zU x0 x1 s6) v3) (Sum.elim (λ _b2=>
some (-1:Int)) some)
theorem Z5{x1:UInt8}{r:Int}(h:yD x0 x1=some r):Fn prog 170 [dt x0,dt x1] (dt r):=by
 refine fq1 0 func170 λ M w0 _ j=>?_
 refine j.q1 (λ _ _ j=>za ?_)
 refine j.jb [] (λ _=>[]) h (λ o2 p2 k2=>?_) λ b2 _ _ j h=>?_
 ·have⟨v3,p3,h⟩:=bs p2
  refine j.q1 λ _ _ j=>?_
  refine j.lp [0,1] (λ s6=>[(5,dt s6)]) h λ s6 x6 _ _ j h hx6=>?_
  refine j.qc h (λ _ _ j h=>?_) λ _ _ j h=>?_
  ·have⟨v11,p11,h⟩:=bs h
   refine j.qc h (λ _ _ j h=>?_) λ _ _ j h=>?_
   ·exact j.e1 (jo (lo h hx6) k2)
   have⟨v19,p19,h⟩:=bs h
   exact j.n1 [] h
  have h:=lo h hx6
  exact flz h
 exact j.e1 h
instance:Ct2 prog 170 dt dt dt yD:=⟨λ h=>Z5 h⟩
def zS(x0:Str)(x1:UInt8):Option Int:=
(yD x0 x1).bind λ v2=>
some v2
theorem JU{x1:UInt8}{r:Int}(h:zS x0 x1=some r):Fn prog 134 [dt x0,dt x1] (dt r):=by
 refine fq1 0 func134 λ M _ _ j=>?_
 refine j.q1 λ _ _ j=>?_
 have⟨v2,p2,h⟩:=bs h
 exact j.e1 h
instance:Ct2 prog 134 dt dt dt zS:=⟨λ h=>JU h⟩
def wF(x1:Str)(x2:Int)(v30:Int)(s35:Str×(List Str)×Int):Option ((Str×(List Str)×Int)⊕(Str×(List Str)×Int)):=
if cmpI .lss s35.2.2 v30 then((wA s35.1 x1).bind λ v40=>
if cmpI .lss v40 0 then(some (.inr (s35.1,s35.2.1,s35.2.2)))
else((i64 (v40+x2)).bind λ v47=>
(cutHO s35.1 v47).bind λ v48=>
(atI s35.2.1 s35.2.2).bind λ _v49=>
(setO s35.2.1 s35.2.2 v48).bind λ v55=>
(i64 (v40+(x1.l.length:Int))).bind λ v57=>
(cutLO s35.1 v57).bind λ v58=>
(i64 (s35.2.2+(1:Int))).bind λ v62=>
some (.inl (v58,v55,v62))))
else(some (.inr (s35.1,s35.2.1,s35.2.2)))
def Zv(x0:Str)(x1:Str)(x2:Int)(x3:Int):Option (List Str):=
if cmpI .eql x3 0 then(some ([]:List Str))
else(if(decide (x1=(⟨[]⟩:Str)))=true then((Xi x0 x3).bind λ v9=>
some v9)
else(Option.bind (α:=Int) (if cmpI .lss x3 0 then((ZC x0 x1).bind λ v16=>
(i64 (v16+(1:Int))).bind λ v17=>
some v17)
else(some x3)) λ o12=>
(i64 ((x0.l.length:Int)+(1:Int))).bind λ v22=>
(QC 1 16 (if v22<o12 then v22 else o12) zStr).bind λ v27=>
(i64 ((if v22<o12 then v22 else o12) - (1:Int))).bind λ v30=>
Option.bind (α:=Str×(List Str)×Int) (zE (λ s35=>wF x1 x2 v30 s35) (x0,v27,(0:Int))) λ o34=>
(atI o34.2.1 o34.2.2).bind λ _v67=>
(setO o34.2.1 o34.2.2 o34.1).bind λ v71=>
(i64 (o34.2.2+(1:Int))).bind λ v74=>
(XF v71 v74).bind λ v75=>
some v75))
theorem zbp{r:List Str}(h:Zv x0 x1 x2 x3=some r):Fn prog 169 [dt x0,dt x1,dt x2,dt x3] (dt r):=by
 refine fq1 1 func169 λ M w0 _ j=>?_
 refine j.q1 (λ _ _ j=>?_) (hs:=sc Z (oA Z (jl (α:=Str)))<|.nil)
 refine j.qc h (λ _ _ j h=>?_) λ _ _ j h=>?_
 ·exact j.e1 h (hs:=sc Z (oA Z (jl (α:=Str)))<|.nil)
 refine j.qc h (λ _ _ j h=>?_) λ _ _ j h=>?_
 ·have⟨v9,p9,h⟩:=bs h
  exact j.e1 h
 refine wqk (za ?_)
 refine j.jmq 1 [0,1,2] (λ o12=>[(3,dt o12)]) (λ _ _=>[]) h (λ o12 p12=>?_) λ o12 q12 _ _ _ j h=>?_
 ·refine j.qc p12 (λ _ _ j h=>?_) λ _ _ j h=>?_
  ·have⟨v16,p16,h⟩:=bs h
   have⟨v17,p17,h⟩:=bs h
   refine j.q1 λ _ _ j=>?_
   cases h
   exact fz
  cases h
  exact fz
 have⟨v22,p22,h⟩:=bs h
 refine j.q1 (λ _ _ j=>Ka ?_)
 refine j.g1 1 λ _ _ j=>?_
 have⟨v27,p27,h⟩:=bs h
 refine j.make 0 kZ9 Jq (gl Z) p27 [0,1,2,3] [] λ g26 _ _ _ j=>?_
 refine j.go_ 1 [(9,0)] (λ _ _ j=>Kb ?_)
 have⟨v30,p30,h⟩:=bs h
 refine j.qo [(9,0)] λ _ _ j=>?_
 refine j.qo [(9,0)] (λ _ _ j=>za ?_)
 refine j.jmq 1 [] (λ o34=>[(0,dt o34.1),(10,dt o34.2.2)]) (λ o34 q=>[(9,0,dtip (q 0) 9 o34.2.1)]) h (λ o34 p34=>?_) λ o34 q34 _ _ _ j h=>?_
 ·refine j.lpq 1 [1,2,3] (λ s35=>[(0,dt s35.1),(10,dt s35.2.2)]) (λ s35 q=>[(9,0,dtip (q 0) 9 s35.2.1)]) p34 λ s35 x35 q35 _ _ _ j h hx35=>?_
  refine j.qd [(9,0)] h (λ _ _ j h=>?_) λ _ _ j h=>?_
  ·have⟨v40,p40,h⟩:=bs h
   refine j.qo [(9,0)] λ _ _ j=>?_
   refine j.qd [(9,0)] h (λ _ _ j h=>?_) λ _ _ j h=>?_
   ·have h:=lo h hx35
    cases h
    exact fz
   refine Ka ?_
   have⟨v47,p47,v48,p48,h⟩:=Kg h
   have⟨v49,p49,h⟩:=bs h
   refine j.go_ 8 [(9,0),(49,0)] (λ _ _ j=>?_) (hs:=sc Z (oM Z (tp Z))<|sc Z (oM Z (tp Z))<|sc Z (oM Z (tp Z))<|sc Z (oM Z (tp Z))<|sc Z (oM Z (tp Z))<|sc Z (xAr Z (tp Z) (tp Z) p47)<|sc Z (xCutH Z (tp Z) (tp Z) p48)<|sc Z (xIdxT Z Jr (tp Z) (tp Z) p49)<|.nil)
   have⟨v55,p55,h⟩:=bs h
   refine j.storeT (sb:=9) 0 (tp Z) p55 [0,1,2,3,10,11] [] (λ _ _ j=>Kb ?_)
   have⟨v57,p57,v58,p58,h⟩:=Kg h
   refine j.qo [(9,0)] λ _ _ j=>?_
   have⟨v62,p62,h⟩:=bs h
   exact j.n1 [(9,0)] h
  have h:=lo h hx35
  cases h
  exact fz
 refine Ka ?_
 have⟨v67,p67,h⟩:=bs h
 refine j.go_ 4 [(9,0),(61,0)] (λ _ _ j=>?_) (hs:=sY 3 (r:=by exact sc Z (xIdxT Z Jr (tp Z) (tp Z) p67)<|.nil))
 have⟨v71,p71,h⟩:=bs h
 refine j.storeT (sb:=9) 0 (tp Z) p71 [10] [] (λ _ _ j=>Kb ?_)
 have j:=j.frz 0 (s:=9) Z Z [10] Z [] Z
 have⟨v74,p74,v75,p75,h⟩:=Kg h
 exact j.e1 h (hs:=sY 3 (r:=by exact sc Z (xSliH Z (ht:=Jr) (tp Z) (tp Z) p75)<|segY))
instance:Ct4 prog 169 dt dt dt dt dt Zv:=⟨λ h=>zbp h⟩
def wB(x0:Str)(x1:Str):Option (List Str):=
(Zv x0 x1 (0:Int) (-1:Int)).bind λ v2=>
some v2
theorem zdh{r:List Str}(h:wB x0 x1=some r):Fn prog 131 [dt x0,dt x1] (dt r):=by
 refine fq1 0 func131 λ M _ _ j=>?_
 refine j.q1 (λ _ _ j=>?_) (hs:=sc Z (oA Z (jl (α:=Str)))<|.nil)
 have⟨v2,p2,h⟩:=bs h
 exact j.e1 h
instance:Ct2 prog 131 dt dt dt wB:=⟨λ h=>zdh h⟩
theorem kY120:zlB prog 120=true:=by kernel_rfl
def qK(v2:List Str)(s7:Int):Option (Int⊕(Unit⊕Bool)):=
if(cmpI .lss s7 (v2.length:Int))=true then((atI v2 s7).bind λ v12=>
(y7 v12).bind λ v15=>
if(!v15)=true then(some (.inr (.inr false)))
else((i64 (s7+(1:Int))).bind λ v23=>
some (.inl v23)))
else(some (.inr (.inl ())))
def ya(x0:Str):Option Bool:=
(wB x0 (⟨[46]⟩:Str)).bind λ v2=>
Option.bind (α:=Unit⊕Bool) (zE (λ s7=>qK v2 s7) (0:Int)) (Sum.elim (λ _b5=>
some (cmpI .leq (v2.length:Int) 3)) some)
theorem wI(h:ya x0=some r):Fn prog 90 [dt x0] (dt r):=by
 refine fq1 0 func90 λ M w0 _ j=>?_
 refine j.q1 λ _ _ j=>?_
 have⟨v2,p2,h⟩:=bs h
 refine j.q1 (λ _ _ j=>za ?_)
 refine j.jb [3] (λ _=>[]) h (λ o5 p5 k5=>?_) λ b5 _ _ j h=>?_
 ·refine j.q1 λ _ _ j=>?_
  refine j.lp [3,8,9] (λ s7=>[(10,dt s7)]) p5 λ s7 x7 _ _ j h hx7=>?_
  refine j.qc h (λ _ _ j h=>?_) λ _ _ j h=>?_
  ·have⟨v12,p12,h⟩:=bs h
   refine j.q1 λ _ _ j=>?_
   have⟨v15,p15,h⟩:=bs h
   refine j.qc h (λ _ _ j h=>?_) λ _ _ j h=>?_
   ·exact j.e1 (jo (lo h hx7) k5)
   have⟨v23,p23,h⟩:=bs h
   exact j.n1 [] h
  have h:=lo h hx7
  exact flz h
 exact j.e1 h
instance:Ct1 prog 90 dt dt ya:=⟨λ h=>wI h⟩
def y8(x0:Str):Option Bool:=
(gO (decide (x0=(⟨[]⟩:Str)) == false) (ya x0)).bind λ v2=>
some (decide (x0=(⟨[]⟩:Str))||v2)
theorem wJ(h:y8 x0=some r):Fn prog 126 [dt x0] (dt r):=by
 refine fq1 0 func126 λ M _ _ j=>?_
 refine j.q1 λ _ _ j=>?_
 have⟨v2,p2,h⟩:=bs h
 exact j.e1 h (hs:=sY 4 (r:=by exact sg Z Z (λ hg=>oK (wI (gh hg p2)))<|segY))
instance:Ct1 prog 126 dt dt y8:=⟨λ h=>wJ h⟩
def q5(x0:Str):Option (List Str):=
(ya x0).bind λ v2=>
if(!v2)=true then(some ([]:List Str))
else((wB x0 (⟨[46]⟩:Str)).bind λ v8=>
some v8)
theorem W4{r:List Str}(h:q5 x0=some r):Fn prog 226 [dt x0] (dt r):=by
 refine fq1 0 func226 λ M _ _ j=>?_
 refine j.q1 (λ _ _ j=>?_) (hs:=sc Z (oA Z (jl (α:=Str)))<|.nil)
 have⟨v2,p2,h⟩:=bs h
 refine j.qc h (λ _ _ j h=>?_) λ _ _ j h=>?_
 ·exact j.e1 h (hs:=sc Z (xt (opds:=[]) (α:=Str) Z (ht':=Jr) Z Z .nil)<|segY)
 have⟨v8,p8,h⟩:=bs h
 exact j.e1 h
instance:Ct1 prog 226 dt dt q5:=⟨λ h=>W4 h⟩
def xl(x0:Str):Option Str:=
(zS x0 (UInt8.ofNat 46)).bind λ v2=>
(ya x0).bind λ v5=>
if((!v5)||cmpI .lss v2 0)=true then(some (⟨[]⟩:Str))
else((cutHO x0 v2).bind λ v11=>
some v11)
theorem zdi{r:Str}(h:xl x0=some r):Fn prog 93 [dt x0] (dt r):=by
 refine fq1 0 func93 λ M _ _ j=>?_
 refine j.q1 λ _ _ j=>?_
 have⟨v2,p2,h⟩:=bs h
 refine j.q1 λ _ _ j=>?_
 have⟨v5,p5,h⟩:=bs h
 refine j.qc h (λ _ _ j h=>?_) (λ _ _ j h=>?_) (hs:=sc Z (oM Z (tp Z))<|sc Z (zF (l:=[.tmp 6]) Z (.cons (tp Z) .nil) (wI p5))<|sc Z (jY Z (tp Z))<|sc Z (oM Z (tp Z))<|sg Z Z (λ hg=>oM Z (tp Z))<|sg Z Z (λ hg=>oCI Z (zk hg Z) cI)<|sc Z (jX Z (tp Z) (zb Z))<|.nil)
 ·exact j.e1 h
 have⟨v11,p11,h⟩:=bs h
 exact j.e1 h
instance:Ct1 prog 93 dt dt xl:=⟨λ h=>zdi h⟩
def jv(x0:Str):Option Str:=
(ya x0).bind λ v2=>
if(!v2)=true then(some (⟨[]⟩:Str))
else((zS x0 (UInt8.ofNat 46)).bind λ v8=>
(i64 (v8+(1:Int))).bind λ v9=>
(cutLO x0 v9).bind λ v10=>
some v10)
theorem JF{r:Str}(h:jv x0=some r):Fn prog 110 [dt x0] (dt r):=by
 refine fq1 0 func110 λ M _ _ j=>?_
 refine j.q1 λ _ _ j=>?_
 have⟨v2,p2,h⟩:=bs h
 refine j.qc h (λ _ _ j h=>?_) λ _ _ j h=>?_
 ·exact j.e1 h
 have⟨v8,p8,v9,p9,h⟩:=Kg h
 have⟨v10,p10,h⟩:=bs h
 exact j.e1 h
instance:Ct1 prog 110 dt dt jv:=⟨λ h=>JF h⟩
def wX(x0:Str)(x1:Str):Option Str:=
(y8 x0).bind λ v2=>
(gO ((!v2) == false) (y7 x1)).bind λ v3=>
if((!v2)||(!v3))=true then(some (⟨[]⟩:Str))
else(Option.bind (α:=Str) (if(decide (x0≠(⟨[]⟩:Str)))=true then((catO x0 (⟨[46]⟩:Str)).bind λ v14=>
(catO v14 x1).bind λ v15=>
some v15)
else(some x1)) λ o10=>
(ya o10).bind λ v20=>
if(!v20)=true then(some (⟨[]⟩:Str))
else(some o10))
theorem W5{r:Str}(h:wX x0 x1=some r):Fn prog 129 [dt x0,dt x1] (dt r):=by
 refine fq1 0 func129 λ M w0 _ j=>?_
 refine j.q1 λ _ _ j=>?_
 have⟨v2,p2,v3,p3,h⟩:=Kg h
 refine j.qc h (λ _ _ j h=>?_) (λ _ _ j h=>?_) (hs:=sY 1 (r:=by exact sc Z (oK (wJ p2))<|sY 3 (r:=by exact sg Z Z (λ hg=>oK (jz (gh hg p3)))<|segY)))
 ·exact j.e1 h
 refine wqk (za ?_)
 refine j.jm [] (λ o10=>[(1,dt o10)]) h (λ o10 p10=>?_) λ o10 _ _ j h=>?_
 ·refine j.qc p10 (λ _ _ j h=>?_) λ _ _ j h=>?_
  ·have⟨v14,p14,h⟩:=bs h
   have⟨v15,p15,h⟩:=bs h
   refine j.q1 λ _ _ j=>?_
   obtain rfl:=Option.some.inj h
   exact fz
  obtain rfl:=Option.some.inj h
  exact fz
 have⟨v20,p20,h⟩:=bs h
 refine j.qc h (λ _ _ j h=>?_) λ _ _ j h=>?_
 ·exact j.e1 h
 exact j.e1 h
instance:Ct2 prog 129 dt dt dt wX:=⟨λ h=>W5 h⟩
def Z6(x0:Str)(x1:Str):Option Bool:=
(ya x0).bind λ v2=>
(gO ((!v2) == false) (y8 x1)).bind λ v3=>
if((!v2)||(!v3))=true then(some false)
else((gO ((decide (x1=(⟨[]⟩:Str))||decide (x0=x1)) == false) (catO x1 (⟨[46]⟩:Str))).bind λ v10=>
(gO ((decide (x1=(⟨[]⟩:Str))||decide (x0=x1)) == false) (ji x0 v10)).bind λ v11=>
some ((decide (x1=(⟨[]⟩:Str))||decide (x0=x1))||v11))
theorem Q9(h:Z6 x0 x1=some r):Fn prog 204 [dt x0,dt x1] (dt r):=by
 refine fq1 0 func204 λ M _ _ j=>?_
 refine j.q1 λ _ _ j=>?_
 have⟨v2,p2,v3,p3,h⟩:=Kg h
 refine j.qc h (λ _ _ j h=>?_) (λ _ _ j h=>?_) (hs:=sc Z (oM Z (tp Z))<|sc Z (zF (l:=[.tmp 5]) Z (.cons (tp Z) .nil) (wI p2))<|sc Z (jY Z (tp Z))<|sc Z (oM Z (tp Z))<|sg Z Z (λ hg=>oM Z (tp Z))<|sg Z Z (λ hg=>zF (l:=[.tmp 9]) Z (.cons (zk hg Z) .nil) (wJ (gh hg p3)))<|sg Z Z (λ hg=>jY Z (zk hg Z))<|sc Z (jX Z (tp Z) (zb Z))<|.nil)
 ·exact j.e1 h
 have⟨v10,p10,v11,p11,h⟩:=Kg h
 exact j.e1 h (hs:=sc Z (oM Z (tp Z))<|sc Z (ZX Z (tp Z) (yz))<|sc Z (oM Z (tp Z))<|sg Z Z (λ hg=>oM Z (tp Z))<|sg Z Z (λ hg=>oM Z (tp Z))<|sg Z Z (λ hg=>ZX Z (zk hg Z) (zk hg Z))<|sc Z (jX Z (tp Z) (zb Z))<|sc Z (oM Z (tp Z))<|sg Z Z (λ hg=>oM Z (tp Z))<|sg Z Z (λ hg=>oM Z (tp Z))<|sg Z Z (λ hg=>xCat Z (zk hg Z) (yz) (gh hg p10))<|sg Z Z (λ hg=>zF (l:=[.tmp 21,.tmp 23]) Z (.cons (zk hg Z) (.cons (zk hg Z) .nil)) (Wz (gh hg p11)))<|sc Z (jX Z (tp Z) (zb Z))<|sc Z (oA Z (tp Z))<|.nil)
instance:Ct2 prog 204 dt dt dt Z6:=⟨λ h=>Q9 h⟩
end Go.Proofs.YtandbaloaenciaaGreatDoor
