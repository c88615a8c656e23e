import Derived.Test.YtifgdhfcoaognaaGreatDoorTO
import Derived.Test.YtifgdhfcoaognaaGreatDoorTH
import Derived.Test.YtifgdhfcoaognaaGreatDoorTB
namespace Go.Proofs.YtifgdhfcoaognaaGreatDoor
open Go.RowKit Tryz
attribute [local irreducible] OpRel OpdR
set_option maxRecDepth 10000
set_option maxHeartbeats 1600000
variable{x3:Int}{ps:List (Nat×Nat)}{x1:List Int}{r:Machine×Int}{x2:Str}{x0:Tree}
theorem kF115_3:fldB prog 115 3 3=true:=by kernel_rfl
theorem kF115_8:fldB prog 115 8 8=true:=by kernel_rfl
theorem kN111:fnB prog 111=true:=by kernel_rfl
theorem kN153:fnB prog 153=true:=by kernel_rfl
theorem kI113:sliB prog 113 116 1=true:=by kernel_rfl
theorem kY113:zlB prog 113=true:=by kernel_rfl
theorem kE113:elB prog 113 116 1 8=true:=by kernel_rfl
theorem Xc:∀ {M:Nat->Prop} {look:Nat->Option Dt} {o:Oper} {q0 q1:Operand} {y0:Int} {y1:Int},o.op=.build 179 #[(0,q0),(1,q1)]->OpdR M look q0 (dt y0)->OpdR M look q1 (dt y1)->OpRel prog M look o (dt (⟨y0,y1⟩:GVal)):=@λ _ _ _ q0 q1 y0 y1 ho h0 h1=>yp (parts:=[(0,q0),(1,q1)]) (ns:=[1,1]) (zs:=zpGVal) Z ho (λ w a hl=>FA ⟨(by decide:0<2),Rep.len (α:=Int) (OpdR.cells h0 hl)⟩ (FA ⟨(by decide:1<2),Rep.len (α:=Int) (OpdR.cells h1 hl)⟩ FN)) (λ w a hl=>GVal.parts (x:=(⟨y0,y1⟩:GVal)) (OpdR.cells h0 hl) (OpdR.cells h1 hl))
theorem kN155:fnB prog 155=true:=by kernel_rfl
theorem kF115_5:fldB prog 115 5 5=true:=by kernel_rfl
instance iF115_4MaC:FldO prog 115 4 4:=⟨Qj⟩
instance iF115_5MaC:FldO prog 115 5 5:=⟨kF115_5⟩
instance iF115_8MaC:FldO prog 115 8 8:=⟨kF115_8⟩
instance iF119_0MaC:FldO prog 119 0 0:=⟨zaJ⟩
instance iF119_3MaC:FldO prog 119 3 3:=⟨kF119_3⟩
instance iF119_4MaC:FldO prog 119 4 4:=⟨kF119_4⟩
instance iF119_5MaC:FldO prog 119 5 5:=⟨Ww⟩
structure Rec where
 spec_importName:Runner->Str->Option (Runner×Int)
 spec_fromName:Runner->Int->Str->Option (Runner×GVal)
 spec_runFrom:Runner->Int->Stmt->Option Runner
 spec_runStar:Runner->Int->Stmt->Option Runner
 spec_runStmt:Runner->Int->Stmt->Option Runner
 spec_runBody:Runner->Int->(List Stmt)->Option Runner
 impl_machine_load1:Machine->Str->Option (Machine×Int×Int)
 impl_machine_body:Machine->Int->Spec->Option (Machine×Int)
 impl_machine_do:Machine->Int->Stmt->Option (Machine×Int)
variable{R:Rec}
def Rec.no:Rec:=⟨λ _ _=>none,λ _ _ _=>none,λ _ _ _=>none,λ _ _ _=>none,λ _ _ _=>none,λ _ _ _=>none,λ _ _=>none,λ _ _ _=>none,λ _ _ _=>none⟩
structure Rec.ok(R:Rec):Prop where
 spec_importName:∀ {x0:Runner} {x1:Str} {r:Runner×Int},R.spec_importName x0 x1=some r->FnS prog 119 oRun ⟨x0⟩ [dt x1] ⟨r.1⟩ (.frz (dt r.2))
 spec_fromName:∀ {x0:Runner} {x1:Int} {x2:Str} {r:Runner×GVal},R.spec_fromName x0 x1 x2=some r->FnS prog 229 oRun ⟨x0⟩ [dt x1,dt x2] ⟨r.1⟩ (.frz (dt r.2))
 spec_runFrom:∀ {x0:Runner} {x1:Int} {x2:Stmt} {r:Runner},R.spec_runFrom x0 x1 x2=some r->FnS prog 213 oRun ⟨x0⟩ [dt x1,dt x2] ⟨r⟩ .gone
 spec_runStar:∀ {x0:Runner} {x1:Int} {x2:Stmt} {r:Runner},R.spec_runStar x0 x1 x2=some r->FnS prog 214 oRun ⟨x0⟩ [dt x1,dt x2] ⟨r⟩ .gone
 spec_runStmt:∀ {x0:Runner} {x1:Int} {x2:Stmt} {r:Runner},R.spec_runStmt x0 x1 x2=some r->FnS prog 190 oRun ⟨x0⟩ [dt x1,dt x2] ⟨r⟩ .gone
 spec_runBody:∀ {x0:Runner} {x1:Int} {x2:List Stmt} {r:Runner},R.spec_runBody x0 x1 x2=some r->FnS prog 163 oRun ⟨x0⟩ [dt x1,dt x2] ⟨r⟩ .gone
 impl_machine_load1:∀ {x0:Machine} {x1:Str} {r:Machine×Int×Int},R.impl_machine_load1 x0 x1=some r->∀ {ps:List (Nat×Nat)},FnS prog 111 (oMac ps) ⟨x0⟩ [dt x1] ⟨r.1⟩ (.frz (dtup [dt r.2.1,dt r.2.2]))
 impl_machine_body:∀ {x0:Machine} {x1:Int} {x2:Spec} {r:Machine×Int},R.impl_machine_body x0 x1 x2=some r->∀ {ps:List (Nat×Nat)},FnS prog 154 (oMac ps) ⟨x0⟩ [dt x1,dt x2] ⟨r.1⟩ (.frz (dt r.2))
 impl_machine_do:∀ {x0:Machine} {x1:Int} {x2:Stmt} {r:Machine×Int},R.impl_machine_do x0 x1 x2=some r->∀ {ps:List (Nat×Nat)},FnS prog 187 (oMac ps) ⟨x0⟩ [dt x1,dt x2] ⟨r.1⟩ (.frz (dt r.2))
theorem Rec.no_ok:Rec.no.ok:=⟨(λ h=>nomatch h),(λ h=>nomatch h),(λ h=>nomatch h),(λ h=>nomatch h),(λ h=>nomatch h),(λ h=>nomatch h),(λ h=>nomatch h),(λ h=>nomatch h),(λ h=>nomatch h)⟩
def yy(R:Rec)(x1:Int)(v20:List Stmt)(s24:Machine×Int×Int):Option ((Machine×Int×Int)⊕(Machine×Int)):=
if(cmpI .lss s24.2.2 (v20.length:Int))=true then((atI v20 s24.2.2).bind λ v29=>
if cmpI .eql s24.1.left 0 then(some (.inr (s24.1,(6:Int))))
else((i64 (s24.1.left - (1:Int))).bind λ v41=>
(R.impl_machine_do ({ s24.1 with left:=v41 }) x1 v29).bind λ v47=>
if cmpI .neq v47.2 0 then(some (.inr (v47.1,v47.2)))
else((i64 (s24.2.2+(1:Int))).bind λ v54=>
some (.inl (v47.1,v47.2,v54)))))
else(some (.inr (s24.1,s24.2.1)))
def qZ(R:Rec)(x0:Machine)(x1:Int)(x2:Spec):Option (Machine×Int):=
(atI x0.modules x1).bind λ _v3=>
(x0.modules[x1.toNat]?).bind λ v5=>
(xI x0 (0:Int) v5.x.name).bind λ v12=>
Option.bind (α:=Machine×Int) (if cmpI .geq x2.file 0 then((atI v12.t.files x2.file).bind λ v19=>
(v12.load.g v19).bind λ v20=>
zP (λ s24=>yy R x1 v20 s24) (v12,(0:Int),(0:Int)))
else(some (v12,(0:Int)))) λ o15=>
Option.bind (α:=Machine) (if cmpI .eql o15.2 0 then((xI o15.1 (1:Int) v5.x.name).bind λ v65=>
some v65)
else((xI o15.1 (2:Int) v5.x.name).bind λ v69=>
some v69)) λ o59=>
some (o59,o15.2)
theorem zaU(hR:R.ok){x0:Machine}{x1:Int}{x2:Spec}(h:qZ R x0 x1 x2=some r):FnS prog 154 (oMac ps) ⟨x0⟩ [dt x1,dt x2] ⟨r.1⟩ (.frz (dt r.2)):=by
 refine fnSB (fn:=f154) 0 2 func154 Z Z (λ M G w0 b0 _ j=>wqw ?_)
 refine j.zo [(0,0)] λ j=>?_
 have⟨v3,p3,v5,p5,h⟩:=Kg h
 refine j.hdF (s:=0) 0 true (λ _=>(Pb.fld owMachine.f4)) [] λ g2 A2 _ hA2 j=>?_
 refine j.mintP (s:=0) 0 (Ya (owMachine.impE4 (YC (zG (yS p3).2)))) [] λ b4 j=>?_
 refine j.zo [(0,0)] (λ j=>?_) (hs:=sZ 5 (r:=by exact sc Z (xIa (g:=g2) Z zbc T T Z (λ h=>hA2 h Z) p3)<|sc Z (xLdP (sb:=0) (Pb.fld owMachine.f4) (.head _) Z (λ h=>hA2 h Z) (.head _) (yS p3).2 (Nat.mul_one _) Z JV T Z)<|sZ 2 (r:=by exact sc Z (xLf (sb:=0) (((Pb.fld owMachine.f4).rowP (.head _) p5).fld owGModR.f0) Z T Z)<|segZ)))
 have j:=j.ncf (s:=0) 0 []
 refine Ka ?_
 refine j.zh 2 [(0,0)] λ j=>?_
 have⟨v12,p12,h⟩:=bs h
 refine j.cNA 0 0 (FnS.any (qB p12)) [1,5,7] [] (λ j=>Kb ?_)
 refine j.zo [(0,0)] (λ j=>za ?_)
 have⟨o15,p15,k15⟩:=bs h
 refine wqj (λ a w=>∃ M1 Q W,Sx (Frm.chg w0 G) 74 M M1 [Q,oneB W] [(7,dt v5.x.name),(8,dt o15.2)] [(0,0,dnm (oMac ((x1.toNat,b4)::ps)) Q ⟨o15.1⟩ (.pointer (some ⟨b0,0,none⟩)) [])] a w) ?_ ?_
 ·refine j.zd [(0,0)] p15 (λ j h=>?_) λ j h=>?_
  ·have⟨v19,p19,h⟩:=bs h
   have⟨v20,p20,h⟩:=bs h
   refine j.zv [(0,0)] (λ _ _ j=>?_) (hs:=sw Z (oM Z U)<|sw Z (xNc Z T)<|sw Z (xFa Z kF115_3 T)<|sw Z (OpRel.fnv (xLf (sb:=0) (Pb.fld owMachine.f3) Z T Z))<|sw Z (oM Z U)<|sw Z (xNc Z T)<|sw Z (xFa Z kF115_0 T)<|sw Z (xFa Z Xt T)<|sw Z (xLf (sb:=0) ((Pb.fld owMachine.f0).fld Tree.z0) Z T Z)<|sw Z (zQ Spec.fld1 Z T)<|sw Z (zz Z T)<|sw Z (xIdx Z T T p19)<|sw Z (zz Z T)<|sw Z (Y9 Z T T p20)<|sw Z (Wr Z T)<|sw Z (oM Z cI)<|.nil)
   refine wql h (λ s24 a w=>∃ M1 Q W,Sx (Frm.chg w0 G) 74 M M1 [Q,oneB W] [(1,dt x1),(7,dt v5.x.name),(8,dt s24.2.1),(40,dt v20),(41,dt (v20.length:Int)),(42,dt s24.2.2)] [(0,0,dnm (oMac ((x1.toNat,b4)::ps)) Q ⟨s24.1⟩ (.pointer (some ⟨b0,0,none⟩)) [])] a w) fx ?_
   rintro s24 z24 _ _ ⟨_,Q,W,j⟩ hs24 hx24
   have h:yy R x1 v20 s24=some z24:=hs24
   unfold yy at h
   refine j.zd [(0,0)] h (λ j h=>?_) λ j h=>?_
   ·refine Ka ?_
    have⟨v29,p29,h⟩:=bs h
    refine j.zh 2 [(0,0)] λ j=>?_
    refine j.alA 1 QY [1,7,40,41,42,45] [0] λ b33 j=>?_
    refine j.stA 10 1 FldS.id (tp Z) [1,7,40,41,42] [0] (λ j=>Kb ?_)
    refine j.zd [(0,0),(10,1)] h (λ j h=>?_) (λ j h=>?_) (hs:=sZ 3 (r:=by exact sc Z (xLf (sb:=0) (Pb.fld owMachine.f8) Z T Z)<|segZ))
    ·refine j.zo [(0,0)] λ j=>?_
     have h:=lo h hx24
     cases h
     exact fz
    refine Ka ?_
    have⟨v41,p41,h⟩:=bs h
    refine j.zh 7 [(0,0),(10,1)] (λ j=>?_) (hs:=sZ 3 (r:=by exact sc Z (xLf (sb:=0) (Pb.fld owMachine.f8) Z T Z)<|segZ))
    refine j.sfA 0 0 (Pb.fld owMachine.f8) (tp Z) (tp Z) [1,7,40,41,42] [10] (λ j=>Kb ?_)
    refine Ka ?_
    refine j.zh 3 [(0,0)] λ j=>?_
    have⟨v47,p47,h⟩:=bs h
    refine j.cNA 0 0 (hR.impl_machine_do p47) [1,7,40,41,42] [] λ j=>?_
    refine j.zh 1 [(0,0)] (λ j=>Kb ?_)
    refine j.zd [(0,0)] h (λ j h=>?_) λ j h=>?_
    ·have h:=lo h hx24
     cases h
     exact fz
    have⟨v54,p54,h⟩:=bs h
    exact j.zn [(0,0)] h
   have h:=lo h hx24
   cases h
   exact fz
  cases h
  exact fz
 rintro _ _ ⟨_,Q,W,j⟩
 have h:=k15
 have⟨o59,p59,k59⟩:=bs h
 refine wqj (λ a w=>∃ M1 Q W,Sx (Frm.chg w0 G) 74 M M1 [Q,oneB W] [(8,dt o15.2)] [(0,0,dnm (oMac ((x1.toNat,b4)::ps)) Q ⟨o59⟩ (.pointer (some ⟨b0,0,none⟩)) [])] a w) ?_ ?_
 ·refine j.zd [(0,0)] p59 (λ j h=>?_) λ j h=>?_
  ·refine Ka ?_
   refine j.zh 2 [(0,0)] λ j=>?_
   have⟨v65,p65,h⟩:=bs h
   refine j.cNA 0 0 (FnS.any (qB p65)) [8] [] (λ j=>Kb ?_)
   cases h
   exact fz
  refine Ka ?_
  refine j.zh 2 [(0,0)] λ j=>?_
  have⟨v69,p69,h⟩:=bs h
  refine j.cNA 0 0 (FnS.any (qB p69)) [8] [] (λ j=>Kb ?_)
  cases h
  exact fz
 rintro _ _ ⟨_,Q,W,j⟩
 have h:=k59
 refine j.zo [(0,0)] λ j=>?_
 have j:=j.asA 0 0 mI []
 exact j.xF 0 0 h
def qC(R:Rec)(x0:Machine)(x1:Str):Option (Machine×Int×Int):=
(ye x0 x1).bind λ v2=>
if cmpI .geq v2 0 then((jY x0 v2).bind λ v10=>
some (v10.1,v10.2,(0:Int)))
else((xK x1).bind λ v14=>
Option.bind (α:=Machine⊕(Machine×Int×Int)) (if(decide (v14≠(⟨[]⟩:Str)))=true then((R.impl_machine_load1 x0 v14).bind λ v23=>
if cmpI .neq v23.2.2 0 then(some (.inr (v23.1,(-1:Int),v23.2.2)))
else((ye v23.1 x1).bind λ v32=>
if cmpI .geq v32 0 then((jY v23.1 v32).bind λ v40=>
some (.inr (v40.1,v40.2,(0:Int))))
else(some (.inl v23.1))))
else(some (.inl x0))) (Sum.elim (λ b17=>
(xX b17 x1).bind λ v48=>
if cmpI .eql v48.2.kind 0 then(some (v48.1,(-1:Int),(1:Int)))
else((appO 8 [] v48.2.roots).bind λ v63=>
(appO 8 v48.1.modules [⟨(⟨x1,v48.2.kind,v63,true,false,[]⟩:GMod)⟩]).bind λ v85=>
(R.impl_machine_body ({ v48.1 with modules:=v85 }) (v48.1.modules.length:Int) v48.2).bind λ v94=>
if cmpI .neq v94.2 0 then((v94.1.modules[v48.1.modules.length]?).bind λ v101=>
some ({ v94.1 with modules:=(v94.1.modules.set v48.1.modules.length ⟨{ v101.x with cached:=false }⟩) },(-1:Int),v94.2))
else((v94.1.modules[v48.1.modules.length]?).bind λ v107=>
Option.bind (α:=Machine) ((ye ({ v94.1 with modules:=(v94.1.modules.set v48.1.modules.length ⟨{ v107.x with done:=true }⟩) }) v14).bind λ v112=>
if(decide (v14≠(⟨[]⟩:Str))&&cmpI .geq v112 0)=true then((atI (v94.1.modules.set v48.1.modules.length ⟨{ v107.x with done:=true }⟩) v112).bind λ _v119=>
(jH x1).bind λ v121=>
((v94.1.modules.set v48.1.modules.length ⟨{ v107.x with done:=true }⟩)[v112.toNat]?).bind λ v126=>
(yG v126.x v121 (⟨(1:Int),(v48.1.modules.length:Int)⟩:GVal)).bind λ v128=>
some ({ v94.1 with modules:=((v94.1.modules.set v48.1.modules.length ⟨{ v107.x with done:=true }⟩).set v112.toNat ⟨v128⟩) }))
else(some ({ v94.1 with modules:=(v94.1.modules.set v48.1.modules.length ⟨{ v107.x with done:=true }⟩) }))) λ o111=>
some (o111,(v48.1.modules.length:Int),(0:Int))))) some))
theorem zaf(hR:R.ok){x0:Machine}{x1:Str}{r:Machine×Int×Int}(h:qC R x0 x1=some r):FnS prog 111 (oMac ps) ⟨x0⟩ [dt x1] ⟨r.1⟩ (.frz (dtup [dt r.2.1,dt r.2.2])):=by
 refine fnSB (fn:=f111) 5 7 func111 Z Z (λ M G w0 b0 _ j=>wqw ?_)
 refine j.rgB segZ [1] [(0,5)] λ j=>?_
 have⟨v2,p2,h⟩:=bs h
 refine j.rgB (sZ 2 (r:=by exact sc Z (wB (l:=[.tmp 16,.tmp 17]) j.ob.sub Z (.cons (lendA (sb:=0) j.ob 5 T Z) (.cons (qR j.ob.sub T) .nil)) (xl p2) Z5)<|segZ)) [1,6] [(0,5)] λ j=>?_
 refine j.rgB segZ [1,6,20] [(0,5)] λ j=>?_
 refine j.cq h (λ h=>?_) λ h=>?_
 ·refine Ka ?_
  refine j.segB 2 segZ [21,22] [(0,5)] λ j=>?_
  have⟨v10,p10,h⟩:=bs h
  refine j.cNA 5 0 (W0 p10) [] [] λ j=>?_
  refine j.segB 2 segZ [4,5] [(0,5)] (λ j=>Kb ?_)
  exact j.xE2 0 5 h
 have⟨v14,p14,h⟩:=bs h
 refine j.rgB segZ [1,7] [(0,5)] (λ j=>za ?_)
 have⟨o17,p17,k17⟩:=bs h
 refine wqj (λ a w=>∃ b17,o17=.inl b17/\(∃ M1 Q W X Y A B C,Sx (Frm.chg w0 G) 111 M M1 [oneB Q,W,X,Y,A,B,oneB C] [(1,dt x1),(7,dt v14)] [(0,5,dnm (oMac ps) B ⟨b17⟩ (.pointer (some ⟨b0,0,none⟩)) [])] a w)) ?_ ?_
 ·refine j.rgB segZ [1,7,27] [(0,5)] λ j=>?_
  refine j.cq p17 (λ h=>?_) λ h=>?_
  ·refine Ka ?_
   refine j.segB 2 segZ [1,7,29,30] [(0,5)] λ j=>?_
   have⟨v23,p23,h⟩:=bs h
   refine j.cNA 5 0 (hR.impl_machine_load1 p23) [1,7] [] λ j=>?_
   refine j.segB 5 segZ [1,7,9] [(0,5)] (λ j=>Kb ?_)
   refine j.rgB segZ [1,7,9,35] [(0,5)] λ j=>?_
   refine j.cq h (λ h=>?_) λ h=>?_
   ·refine j.rgB segZ [4,5] [(0,5)] λ j=>?_
    have h:=jo h k17
    exact j.xE2 0 5 h
   have⟨v32,p32,h⟩:=bs h
   refine j.rgB (sZ 2 (r:=by exact sc Z (wB (l:=[.tmp 37,.tmp 38]) j.ob.sub Z (.cons (lendA (sb:=0) j.ob 5 T Z) (.cons (qR j.ob.sub T) .nil)) (xl p32) Z5)<|segZ)) [1,7,10] [(0,5)] λ j=>?_
   refine j.rgB segZ [1,7,10,41] [(0,5)] λ j=>?_
   refine j.cq h (λ h=>?_) λ h=>?_
   ·refine Ka ?_
    refine j.segB 2 segZ [42,43] [(0,5)] λ j=>?_
    have⟨v40,p40,h⟩:=bs h
    refine j.cNA 5 0 (W0 p40) [] [] λ j=>?_
    refine j.segB 2 segZ [4,5] [(0,5)] (λ j=>Kb ?_)
    have h:=jo h k17
    exact j.xE2 0 5 h
   exact flz h
  exact flz h
 rintro _ _ ⟨b17,rfl,⟨_,Q,W,X,Y,A,B,C,j⟩⟩
 have h:=jn k17
 refine Ka ?_
 refine j.segB 2 segZ [1,7,45,46] [(0,5)] λ j=>?_
 have⟨v48,p48,h⟩:=bs h
 refine j.cNA 5 0 (Wp p48) [1,7] [] @λ G47 _ _ _ j=>?_
 refine j.alA 6 WP [1,7,47] [0] λ b52 j=>?_
 have j:=j.gn
 refine j.stA 11 6 FldS.id (tp Z) [1,7] [0] λ j=>?_
 have j:=j.frzX 6 (s:=11) [1,7] [0]
 have j:=j.gn
 refine Kb ?_
 refine j.rgB segZ [1,7,11,50] [(0,5)] λ j=>?_
 refine j.cq h (λ h=>?_) λ h=>?_
 ·refine j.rgB segZ [4,5] [(0,5)] λ j=>?_
  exact j.xE2 0 5 h
 have j:=j.rst 0 [1,7,11,50] Z [0] Z
 have⟨v63,p63,h⟩:=bs h
 refine j.zu 8 [(0,5),(58,0)] (λ j=>?_) (hs:=sV 3 (r:=by exact sw Z (wA (α:=Int) (e:=3) Z)<|sV 2 (r:=by exact sw Z (op_app0 Z kE23 T T p63)<|sw Z (wA (α:=GAttr) (e:=206) Z (ht':=QC))<|.nil)))
 have j:=j.tipW (s:=58) 0 (hG:=(λ _ h=>(by cases h))) [0]
 refine j.bldW (ow:=(owGModR oAtt)) (parts:=[(0,.tmp 51),(1,.tmp 53),(2,.tmp 57),(3,.const (.bool true)),(5,.tmp 58)]) (ns:=[1,1,1,1,1,1]) (zs:=zpGMod) (x:=(⟨x1,v48.2.kind,v63,true,false,[]⟩:GMod)) 1 [0] (FA ⟨by decide,Rep.len (α:=Str) (j.oc T)⟩ (FA ⟨by decide,Rep.len (α:=Int) (j.oc T)⟩ (FA ⟨by decide,Rep.len (α:=List Int) (j.oc T)⟩ (FA ⟨by decide,Z⟩ (FA ⟨by decide,Ow.len _ (js (j.st.has 58 _ Z))⟩ FN))))) (((owGModR oAtt)).more (owGModR.mk (x:=(⟨x1,v48.2.kind,v63,true,false,[]⟩:GMod)) (j.oc T) (j.oc T) (j.oc T) (OpdR.cells cB (λ s y hs=>j.st.has s y hs)) ⟨Z,trivial⟩ (js (j.st.has 58 _ Z))) (λ b=>(λ hb=>⟨0,by simp,hb⟩))) [1,7,11] [0] (@λ G66 _ _ j=>?_)
 have j:=j.gs (Gs':=[oneB none,G66,X,Y,A,G47,oneB none])
 have j:=j.gn
 refine j.boxW 4 1 [1,7,11] [0] λ b70 _ _ _ _ j=>?_
 have j:=j.gn
 refine j.segB 1 segZ [1,7,11] [(0,5),(12,4)] (λ j=>Kb ?_)
 refine j.hdF (s:=0) 5 true (λ _=>(Pb.fld owMachine.f4)) [12] λ g73 A73 _ hA73 j=>?_
 refine j.rgB (sZ 4 (r:=by exact sc Z (xLe Z T)<|segZ)) [1,7,11,13] [(0,5),(12,4)] λ j=>?_
 have j:=j.ncf (s:=0) 5 [12]
 refine Ka ?_
 refine j.hdF (s:=0) 5 true (λ _=>(Pb.fld owMachine.f4)) [12] λ g76 A76 _ hA76 j=>?_
 refine j.segB 6 (sc Z (oM Z U)<|
  sc Z (oM Z U)<|
  sc Z (xNc Z T)<|
  sc Z (xFa Z Qj T)<|
  sc Z (xLc (sb:=0) (.head _) Z Z Z T Z)<|
  sc Z (oM Z T)<|.nil) [1,7,11,13,66,70] [(0,5),(12,4),(71,4)] (λ j=>?_)
 have j:=j.addL (s:=12) (y:=dis (.pointer (some ⟨b70,0,none⟩))) (j.st.has 12 _ Z).1
 have j:=j.tuck (s:=71) 182 4 Z (λ _ h=>h) Z [0] Z
 refine j.litW (oe:=(Ow.pin (owGModR oAtt))) (opds:=[.tmp 71]) (xs:=[⟨b70,(⟨x1,v48.2.kind,v63,true,false,[]⟩:GMod)⟩]) 2 [4] kI113 kY113 (Q9 (pin_cells (j.st.has 71 _ Z) (j.st.has 182 _ Z)) (λ b hb=>⟨4,by simp,hb⟩)) (λ q hq=>by
 simp only[List.mem_cons,List.not_mem_nil,or_false] at hq
 subst hq
 exact Ow.len _ (pin_cells (j.st.has 71 _ Z) (j.st.has 182 _ Z))) [1,7,11,12,13,66,70,71] [0] (λ G78 _ _ _ j=>?_)
 have j:=j.gs (Gs':=[oneB none,oneB none,G78,Y,oneB none,G47,oneB none])
 have j:=j.asO (s:=0) 5 Z Z (λ _ h=>h) (wm (owMachine.imp4 (imp_lax (b:=b70)))) [72] Z
 refine j.mvG (s:=70) (sb:=0) 5 3 (Pb.fld owMachine.f4) (.head _) (yA Z Z) [1,7,11,12,13,66,71] [72] λ j=>?_
 have⟨v85,p85,h⟩:=bs h
 refine j.appP 3 2 Z Z kE113 Z Z Z (λ _ h=>h) (λ _ h=>h) p85 [1,7,11,12,13,66,71] Z [0] Z Z Z λ _ _ _ _ hn82 j=>?_
 have j:=j.gn
 refine j.segB 2 segZ [1,7,11,12,13,75] [(0,5),(73,3)] λ j=>?_
 refine j.shA 0 73 5 3 (tp Z) [1,7,11,12,13] [] λ j=>?_
 have j:=j.asA 0 5 (wm (owMachine.imp4 (imp_strict hn82))) []
 have j:=j.gn
 refine Kb ?_
 refine Ka ?_
 refine j.segB 3 segZ [1,7,12,13,76,77,78] [(0,5)] λ j=>?_
 have⟨v94,p94,h⟩:=bs h
 refine j.cNA 5 0 (hR.impl_machine_body p94) [1,7,12,13] [] λ j=>?_
 refine j.segB 1 segZ [1,7,12,13,14] [(0,5)] (λ j=>Kb ?_)
 refine j.rgB segZ [1,7,12,13,14,81] [(0,5)] λ j=>?_
 refine j.cq h (λ h=>?_) λ h=>?_
 ·refine Ka ?_
  have⟨v101,p101,h⟩:=bs h
  refine j.segB 3 segZ [14,84] [(0,5)] λ j=>?_
  refine j.sfA 0 5 (((Pb.fld owMachine.f4).rowP (.head _) p101).fld owGModR.f3) (tp Z) cB [14] [] (λ j=>Kb ?_)
  refine j.rgB segZ [4,5] [(0,5)] λ j=>?_
  have j:=j.asA 0 5 mI []
  exact j.xE2 0 5 h
 refine Ka ?_
 have⟨v107,p107,h⟩:=bs h
 refine j.segB 3 segZ [1,7,13,88] [(0,5)] λ j=>?_
 refine j.sfA 0 5 (((Pb.fld owMachine.f4).rowP (.head _) p107).fld owGModR.f4) (tp Z) cB [1,7,13] [] (λ j=>Kb ?_)
 refine za ?_
 have⟨o111,p111,k111⟩:=bs h
 refine wqj (λ a w=>∃ M1 Q W X Y A B C,Sx (Frm.chg w0 G) 111 M M1 [oneB Q,W,X,Y,A,B,oneB C] [(13,dt (v48.1.modules.length:Int))] [(0,5,dnm (oMac ((v48.1.modules.length,b70)::ps)) B ⟨o111⟩ (.pointer (some ⟨b0,0,none⟩)) [])] a w) ?_ ?_
 ·have⟨v112,p112,h⟩:=bs p111
  refine j.rgB (sZ 2 (r:=by exact sc Z (wB (l:=[.tmp 89,.tmp 90]) j.ob.sub Z (.cons (lendA (sb:=0) j.ob 5 T Z) (.cons (qR j.ob.sub T) .nil)) (xl p112) Z5)<|segZ)) [1,7,13,15] [(0,5)] λ j=>?_
  refine j.rgB segZ [1,13,15,97] [(0,5)] λ j=>?_
  refine j.cq h (λ h=>?_) λ h=>?_
  ·have⟨v119,p119,h⟩:=bs h
   have⟨v121,p121,h⟩:=bs h
   refine j.hdF (s:=0) 5 true (λ _=>(Pb.fld owMachine.f4)) [] λ g118 A118 _ hA118 j=>?_
   refine j.mintP (s:=0) 5 (Ya (owMachine.impE4 (YC (zG (yS p119).2)))) [] λ b120 j=>?_
   refine j.zu 11 [(0,5)] (λ j=>?_) (hs:=sV 5 (r:=by exact sw Z (xIa (g:=g118) Z zbc T T Z (λ h=>hA118 h Z) p119)<|sw Z (xLdP (sb:=0) (Pb.fld owMachine.f4) (.head _) Z (λ h=>hA118 h Z) (.head _) (yS p119).2 (Nat.mul_one _) Z JV T Z)<|sV 1 (r:=by exact sw Z (zA (l:=[.tmp 105]) Z (.cons T .nil) (Ju p121))<|sV 1 (r:=by exact sw Z (Xc Z cI T)<|.nil))))
   have⟨v126,p126,v128,p128,h⟩:=Kg h
   refine j.cSF (l:=[.tmp 106,.tmp 108]) 5 (j.bkP (sb:=0) (Pb.fld owMachine.f4) (.head _) p126) Z Z kN155 (j.st.has 104 _ Z) (by simp) (.cons T (.cons T .nil)) (FnS.any (jX p128)) [13] Z [] Z Z (by decide) λ j=>?_
   have j:=j.gn
   refine Kb ?_
   have j:=j.asA 0 5 mI []
   cases h
   exact fz
  cases h
  exact fz
 rintro _ _ ⟨_,Q,W,X,Y,A,B,C,j⟩
 have h:=k111
 refine j.rgB segZ [4,5] [(0,5)] λ j=>?_
 have j:=j.asA 0 5 mI []
 exact j.xE2 0 5 h
def y8(_R:Rec)(x1:Int)(v243:List GAttr)(s248:Machine×Int):Option ((Machine×Int)⊕(Machine⊕(Machine×Int))):=
if(cmpI .lss s248.2 (v243.length:Int))=true then(Option.bind (α:=Machine) ((atI v243 s248.2).bind λ v254=>
(atI v254.name.l 0).bind λ v262=>
if(cmpB .neq v262 (UInt8.ofNat 122))=true then((s248.1.modules[x1.toNat]?).bind λ v269=>
(yG v269.x v254.name v254.value).bind λ v271=>
some ({ s248.1 with modules:=(s248.1.modules.set x1.toNat ⟨v271⟩) }))
else(some s248.1)) λ o253=>
(i64 (s248.2+(1:Int))).bind λ v275=>
some (.inl (o253,v275)))
else(some (.inr (.inl s248.1)))
def yP(R:Rec)(x0:Machine)(x1:Int)(x2:Stmt):Option (Machine×Int):=
(atI x0.modules x1).bind λ _v3=>
Option.bind (α:=Machine⊕(Machine×Int)) (if cmpI .eql x2.kind 0 then((R.impl_machine_load1 x0 x2.module).bind λ v15=>
if cmpI .neq v15.2.2 0 then(some (.inr (v15.1,v15.2.2)))
else((jc x2.module (⟨[46]⟩:Str)).bind λ v25=>
(ye v15.1 v25.1).bind λ v28=>
if cmpI .lss v28 0 then(some (.inr (v15.1,(1:Int))))
else((v15.1.modules[x1.toNat]?).bind λ v39=>
(yG v39.x v25.1 (⟨(1:Int),v28⟩:GVal)).bind λ v41=>
some (.inl ({ v15.1 with modules:=(v15.1.modules.set x1.toNat ⟨v41⟩) })))))
else(if cmpI .eql x2.kind 1 then((x0.modules[x1.toNat]?).bind λ v47=>
(wu v47.x).bind λ v48=>
(jW v48 x2.level x2.module).bind λ v49=>
if(decide (v49=(⟨[]⟩:Str)))=true then(some (.inr (x0,(5:Int))))
else((R.impl_machine_load1 x0 v49).bind λ v62=>
if cmpI .neq v62.2.2 0 then(some (.inr (v62.1,v62.2.2)))
else(Option.bind (α:=GVal×Bool) ((atI v62.1.modules v62.2.1).bind λ _v83=>
(v62.1.modules[v62.2.1.toNat]?).bind λ v87=>
(wn v87.x x2.name).bind λ v88=>
some (v88.1,v88.2)) λ o72=>
Option.bind (α:=(Machine×GVal)⊕(Machine⊕(Machine×Int))) (if(!o72.2)=true then((wj v49 x2.name).bind λ v171=>
(atI v62.1.modules v62.2.1).bind λ _v175=>
(v62.1.modules[v62.2.1.toNat]?).bind λ v177=>
(gO ((cmpI .eql v177.x.kind 1||decide (v171=(⟨[]⟩:Str))) == false) (ye v62.1 v171)).bind λ v178=>
(gO (((cmpI .eql v177.x.kind 1||decide (v171=(⟨[]⟩:Str))) == false)&&(cmpI .lss v178 0 == true)) (xX v62.1 v171)).bind λ v184=>
if((cmpI .eql v177.x.kind 1||decide (v171=(⟨[]⟩:Str)))||(cmpI .lss v178 0&&cmpI .eql v184.2.kind 0))=true then(some (.inr (.inr ((if(((cmpI .eql v177.x.kind 1||decide (v171=(⟨[]⟩:Str))) == false)&&(cmpI .lss v178 0 == true))=true then v184.1 else v62.1),(2:Int)))))
else((R.impl_machine_load1 (if(((cmpI .eql v177.x.kind 1||decide (v171=(⟨[]⟩:Str))) == false)&&(cmpI .lss v178 0 == true))=true then v184.1 else v62.1) v171).bind λ v196=>
if cmpI .neq v196.2.2 0 then(some (.inr (.inr (v196.1,v196.2.2))))
else(some (.inl (v196.1,(⟨(1:Int),v196.2.1⟩:GVal))))))
else(some (.inl (v62.1,o72.1)))) (Sum.elim (λ b167=>
(b167.1.modules[x1.toNat]?).bind λ v214=>
(yG v214.x x2.name b167.2).bind λ v216=>
some (.inl ({ b167.1 with modules:=(b167.1.modules.set x1.toNat ⟨v216⟩) }))) some))))
else(if cmpI .eql x2.kind 2 then((R.impl_machine_load1 x0 x2.module).bind λ v224=>
if cmpI .neq v224.2.2 0 then(some (.inr (v224.1,v224.2.2)))
else((atI v224.1.modules v224.2.1).bind λ _v235=>
(v224.1.modules[v224.2.1.toNat]?).bind λ v237=>
(appO 32 [] v237.x.attrs).bind λ v243=>
zP (λ s248=>y8 R x1 v243 s248) (v224.1,(0:Int))))
else(if cmpI .eql x2.kind 3 then((x0.modules[x1.toNat]?).bind λ v285=>
(yG v285.x x2.name (⟨(0:Int),x2.value⟩:GVal)).bind λ v287=>
some (.inl ({ x0 with modules:=(x0.modules.set x1.toNat ⟨v287⟩) })))
else(if cmpI .eql x2.kind 4 then((x0.modules[x1.toNat]?).bind λ v293=>
(wn v293.x x2.name).bind λ v294=>
if(!v294.2)=true then(some (.inr (x0,(3:Int))))
else(if cmpI .eql v294.1.kind 1 then((appO 8 x0.out ([(-1:Int)]:List Int)).bind λ v321=>
some (.inl ({ x0 with out:=v321 })))
else((appO 8 x0.out ([v294.1.num]:List Int)).bind λ v339=>
some (.inl ({ x0 with out:=v339 })))))
else(if cmpI .eql x2.kind 5 then(some (.inr (x0,(4:Int))))
else(some (.inl x0)))))))) (Sum.elim (λ b8=>
some (b8,(0:Int))) some)
theorem zcl(hR:R.ok){x0:Machine}{x1:Int}{x2:Stmt}(h:yP R x0 x1 x2=some r):FnS prog 187 (oMac ps) ⟨x0⟩ [dt x1,dt x2] ⟨r.1⟩ (.frz (dt r.2)):=by
 refine fnSB (fn:=f187) 1 7 func187 Z Z (λ M G w0 b0 _ j=>wqw ?_)
 refine j.zo [(0,1)] λ j=>?_
 have⟨v3,p3,h⟩:=bs h
 refine j.hdF (s:=0) 1 true (λ _=>(Pb.fld owMachine.f4)) [] λ g2 A2 _ hA2 j=>?_
 refine j.mintP (s:=0) 1 (Ya (owMachine.impE4 (YC (zG (yS p3).2)))) [] λ b4 j=>?_
 refine j.zo [(0,1)] (λ j=>?_) (hs:=sZ 5 (r:=by exact sc Z (xIa (g:=g2) Z zbc T T Z (λ h=>hA2 h Z) p3)<|sc Z (xLdP (sb:=0) (Pb.fld owMachine.f4) (.head _) Z (λ h=>hA2 h Z) (.head _) (yS p3).2 (Nat.mul_one _) Z JV T Z)<|segZ))
 refine za ?_
 have j:=j.ncf (s:=0) 1 []
 have⟨o8,p8,k8⟩:=bs h
 refine wqj (λ a w=>∃ b8,o8=.inl b8/\(∃ M1 Q W X Y A B C,Sx (Frm.chg w0 G) 236 M M1 [oneB Q,W,X,Y,oneB A,oneB B,oneB C] [] [(0,1,dnm (oMac ((x1.toNat,b4)::ps)) W ⟨b8⟩ (.pointer (some ⟨b0,0,none⟩)) [])] a w)) ?_ ?_
 ·refine j.zo [(0,1)] λ j=>?_
  refine j.zd [(0,1)] p8 (λ j h=>?_) λ j h=>?_
  ·refine Ka ?_
   refine j.zh 3 [(0,1)] λ j=>?_
   have⟨v15,p15,h⟩:=bs h
   refine j.cNA 1 0 (hR.impl_machine_load1 p15) [5,7] [] λ j=>?_
   refine j.zh 5 [(0,1)] (λ j=>Kb ?_)
   refine j.zd [(0,1)] h (λ j h=>?_) λ j h=>?_
   ·refine j.zo [(0,1)] λ j=>?_
    have j:=j.asA 0 1 mI []
    have h:=jo h k8
    exact j.xF 0 1 h
   have⟨v25,p25,h⟩:=bs h
   refine j.zo [(0,1)] λ j=>?_
   have⟨v28,p28,h⟩:=bs h
   refine j.zo [(0,1)] (λ j=>?_) (hs:=sZ 2 (r:=by exact sc Z (wB (l:=[.tmp 56,.tmp 57]) j.ob.sub Z (.cons (lendA (sb:=0) j.ob 1 T Z) (.cons (qR j.ob.sub T) .nil)) (xl p28) Z5)<|segZ))
   refine j.zd [(0,1)] h (λ j h=>?_) λ j h=>?_
   ·refine j.zo [(0,1)] λ j=>?_
    have j:=j.asA 0 1 mI []
    have h:=jo h k8
    exact j.xF 0 1 h
   refine Ka ?_
   refine j.zh 4 [(0,1)] (λ j=>?_) (hs:=sZ 3 (r:=by exact sc Z (Xc Z cI T)<|.nil))
   have⟨v39,p39,v41,p41,h⟩:=Kg h
   refine j.cSF (l:=[.tmp 62,.tmp 64]) 1 (j.bkP (sb:=0) (Pb.fld owMachine.f4) (.head _) p39) Z Z kN155 (j.st.has 61 _ Z) (by simp) (.cons T (.cons T .nil)) (FnS.any (jX p41)) [] Z [] Z Z (by decide) λ j=>?_
   have j:=j.gn
   refine Kb ?_
   exact flz h
  refine j.zd [(0,1)] h (λ j h=>?_) λ j h=>?_
  ·have⟨v47,p47,h⟩:=bs h
   have⟨v48,p48,v49,p49,h⟩:=Kg h
   refine j.zv [(0,1)] (λ _ _ j=>?_) (hs:=sV 1 (r:=by exact sw Z (wB (l:=[.tmp 68]) j.ob.sub Z (.cons (lendQ (sb:=0) j.ob 1 ((Pb.fld owMachine.f4).rowP (.head _) p47) T Z) .nil) (Xb p48) flat_str)<|sV 4 (r:=by exact sw Z (zA (l:=[.tmp 69,.tmp 71,.tmp 73]) Z (.cons T (.cons T (.cons T .nil))) (WY p49))<|sw Z (oA Z T)<|.nil)))
   refine j.zd [(0,1)] h (λ j h=>?_) λ j h=>?_
   ·refine j.zo [(0,1)] λ j=>?_
    have j:=j.asA 0 1 mI []
    have h:=jo h k8
    exact j.xF 0 1 h
   refine Ka ?_
   refine j.zh 2 [(0,1)] λ j=>?_
   have⟨v62,p62,h⟩:=bs h
   refine j.cNA 1 0 (hR.impl_machine_load1 p62) [5,7,14] [] λ j=>?_
   refine j.zh 5 [(0,1)] (λ j=>Kb ?_)
   refine j.zd [(0,1)] h (λ j h=>?_) λ j h=>?_
   ·refine j.zo [(0,1)] λ j=>?_
    have j:=j.asA 0 1 mI []
    have h:=jo h k8
    exact j.xF 0 1 h
   refine wqk ?_
   refine za ?_
   have⟨o72,p72,k72⟩:=bs h
   refine wqj (λ a w=>∃ M1 Q W X Y A B C,Sx (Frm.chg w0 G) 236 M M1 [oneB Q,W,X,Y,oneB A,oneB B,oneB C] [(5,dptr x2),(14,dt v49),(15,dt v62.2.1),(18,dt o72.2),(7,dis (.pointer (some ⟨b4,0,none⟩)))] [(17,4,dbox A 0 o72.1),(0,1,dnm (oMac ((x1.toNat,b4)::ps)) W ⟨v62.1⟩ (.pointer (some ⟨b0,0,none⟩)) [])] a w) ?_ ?_
   ·refine j.opn (s:=5) λ b73 o73 c73 j=>?_
    refine j.held (λ w=>CellsAt w b73 o73 c73) yc λ _ j=>?_
    refine j.tN 0 0 (j.pkZ 5) λ _ j=>?_
    refine j.tk (i:=1) Z Z (by decide +kernel) (by decide +kernel) (by decide +kernel) (λ _ _ _ h=>h) (j.pkS (s:=5)) (yNc Z (j.st.has 87 _ Z)) λ _ j=>?_
    refine j.tk (i:=2) Z Z (by decide +kernel) (by decide +kernel) (by decide +kernel) (λ _ _ _ h=>h) (j.pkS (s:=5)) (yFa Z Qj (j.st.has 88 _ Z)) λ _ j=>?_
    refine j.tM 4 15 (j.pkZ 5) λ _ j=>?_
    refine j.tA 7 5 (λ _ j=>?_) (ht:=kF74_3)
    refine j.tF 8 5 94 Stmt.fld3 λ _ j=>?_
    have⟨v83,p83,h⟩:=bs p72
    have⟨v87,p87,v88,p88,h⟩:=Kg h
    refine aK2 3 13 ?_ ?_
    ·refine j.hdF (s:=0) 1 true (λ _=>(Pb.fld owMachine.f4)) [] λ g102 A102 _ hA102 j=>?_
     refine j.zh 1 [(0,1)] λ j=>?_
     refine aHN (j.pkZ 5) ?_
     refine j.tkI (i:=5) (s2:=90) (g:=g102) Z Z (j.pkZ 5) Z zbc Z Z (tp Z) Z (λ h=>hA102 h Z) p83 λ _ j=>?_
     refine aK2 6 13 ?_ ?_
     ·refine j.mintP (s:=0) 1 (Ya (owMachine.impE4 (YC (zG (yS p83).2)))) [] λ b105 j=>?_
      refine j.zh 1 [(0,1)] (λ j=>?_) (hs:=sc Z (xLdP (sb:=0) (Pb.fld owMachine.f4) (.head _) Z (λ h=>hA102 h Z) (.head _) (yS p83).2 (Nat.mul_one _) Z JV T Z)<|.nil)
      refine aHN (j.pkZ 5) ?_
      refine aK2 9 13 ?_ ?_
      ·refine j.zh 1 [(0,1)] (λ j=>?_) (hs:=sc Z (wB (l:=[.tmp 93,.tmp 95]) j.ob.sub Z (.cons (lendQ (sb:=0) j.ob 1 ((Pb.fld owMachine.f4).rowP (.head _) p87) T Z) (.cons (qR j.ob.sub T) .nil)) (wX p88) (JS zaa Y8))<|.nil)
       refine aHN (j.pkZ 5) ?_
       refine j.tM 10 96 (j.pkZ 5) λ _ j=>?_
       refine j.tkE (i:=11) (s2:=86) (j.pkZ 5) λ j=>?_
       refine j.tkE (i:=12) (s2:=86) (j.pkZ 5) (λ j=>aK1 13 ?_)
       refine j.alA 4 Qb [5,7,14,15,97,98] [0] λ b112 j=>?_
       have j:=j.gn
       refine aHN (j.pkZ 5) ?_
       refine aK1 14 ?_
       refine j.stA 17 4 FldS.id (tp Z) [5,7,14,15,98] [0] λ j=>?_
       refine aHN (j.pkZ 5) ?_
       refine aK1 15 ?_
       refine j.zh 1 [(0,1),(17,4)] λ j=>?_
       refine aHN (j.pkZ 5) ?_
       refine aK0 ?_
       have j:=j.ncf (s:=0) 1 [17]
       have j:=j.clo (s:=5)
       have j:=j.asA 0 1 mI [17]
       cases h
       exact fz
      ·refine j.alA 4 Qb [5,7,14,15,93,95] [0] λ b121 j=>?_
       have j:=j.gn
       refine aHN (j.pkZ 5) ?_
       refine aK1 9 ?_
       refine j.zh 1 [(0,1),(17,4)] (λ j=>?_) (hs:=sc Z (wB (l:=[.tmp 93,.tmp 95]) j.ob.sub Z (.cons (lendQ (sb:=0) j.ob 1 ((Pb.fld owMachine.f4).rowP (.head _) p87) T Z) (.cons (qR j.ob.sub T) .nil)) (wX p88) (JS zaa Y8))<|.nil)
       refine aHN (j.pkZ 5) ?_
       refine j.tM 10 96 (j.pkZ 5) λ _ j=>?_
       refine j.tkE (i:=11) (s2:=86) (j.pkZ 5) λ j=>?_
       refine j.tkE (i:=12) (s2:=86) (j.pkZ 5) (λ j=>aK1 14 ?_)
       refine j.stA 17 4 FldS.id (tp Z) [5,7,14,15,98] [0] λ j=>?_
       refine aHN (j.pkZ 5) ?_
       refine aK1 15 ?_
       refine j.zh 1 [(0,1),(17,4)] λ j=>?_
       refine aHN (j.pkZ 5) ?_
       refine aK0 ?_
       have j:=j.ncf (s:=0) 1 [17]
       have j:=j.clo (s:=5)
       have j:=j.asA 0 1 mI [17]
       cases h
       exact fz
     ·refine j.alA 4 Qb [5,7,14,15,92,95] [0] λ b134 j=>?_
      have j:=j.gn
      refine aHN (j.pkZ 5) ?_
      refine aK1 6 ?_
      refine j.mintP (s:=0) 1 (Ya (owMachine.impE4 (YC (zG (yS p83).2)))) [17] λ b136 j=>?_
      refine j.zh 1 [(0,1),(17,4)] (λ j=>?_) (hs:=sc Z (xLdP (sb:=0) (Pb.fld owMachine.f4) (.head _) Z (λ h=>hA102 h Z) (.head _) (yS p83).2 (Nat.mul_one _) Z JV T Z)<|.nil)
      refine aHN (j.pkZ 5) ?_
      refine aK1 9 ?_
      refine j.zh 1 [(0,1),(17,4)] (λ j=>?_) (hs:=sc Z (wB (l:=[.tmp 93,.tmp 95]) j.ob.sub Z (.cons (lendQ (sb:=0) j.ob 1 ((Pb.fld owMachine.f4).rowP (.head _) p87) T Z) (.cons (qR j.ob.sub T) .nil)) (wX p88) (JS zaa Y8))<|.nil)
      refine aHN (j.pkZ 5) ?_
      refine j.tM 10 96 (j.pkZ 5) λ _ j=>?_
      refine j.tkE (i:=11) (s2:=86) (j.pkZ 5) λ j=>?_
      refine j.tkE (i:=12) (s2:=86) (j.pkZ 5) (λ j=>aK1 14 ?_)
      refine j.stA 17 4 FldS.id (tp Z) [5,7,14,15,98] [0] λ j=>?_
      refine aHN (j.pkZ 5) ?_
      refine aK1 15 ?_
      refine j.zh 1 [(0,1),(17,4)] λ j=>?_
      refine aHN (j.pkZ 5) ?_
      refine aK0 ?_
      have j:=j.ncf (s:=0) 1 [17]
      have j:=j.clo (s:=5)
      have j:=j.asA 0 1 mI [17]
      cases h
      exact fz
    ·refine j.alA 4 Qb [5,7,14,15,89,91,95] [0] λ b149 j=>?_
     have j:=j.gn
     refine aHN (j.pkZ 5) ?_
     refine aK1 3 ?_
     refine j.hdF (s:=0) 1 true (λ _=>(Pb.fld owMachine.f4)) [17] λ g151 A151 _ hA151 j=>?_
     refine j.zh 1 [(0,1),(17,4)] λ j=>?_
     refine aHN (j.pkZ 5) ?_
     refine j.tkI (i:=5) (s2:=90) (g:=g151) Z Z (j.pkZ 5) Z zbc Z Z (tp Z) Z (λ h=>hA151 h Z) p83 (λ _ j=>aK1 6 ?_)
     refine j.mintP (s:=0) 1 (Ya (owMachine.impE4 (YC (zG (yS p83).2)))) [17] λ b154 j=>?_
     refine j.zh 1 [(0,1),(17,4)] (λ j=>?_) (hs:=sc Z (xLdP (sb:=0) (Pb.fld owMachine.f4) (.head _) Z (λ h=>hA151 h Z) (.head _) (yS p83).2 (Nat.mul_one _) Z JV T Z)<|.nil)
     refine aHN (j.pkZ 5) ?_
     refine aK1 9 ?_
     refine j.zh 1 [(0,1),(17,4)] (λ j=>?_) (hs:=sc Z (wB (l:=[.tmp 93,.tmp 95]) j.ob.sub Z (.cons (lendQ (sb:=0) j.ob 1 ((Pb.fld owMachine.f4).rowP (.head _) p87) T Z) (.cons (qR j.ob.sub T) .nil)) (wX p88) (JS zaa Y8))<|.nil)
     refine aHN (j.pkZ 5) ?_
     refine j.tM 10 96 (j.pkZ 5) λ _ j=>?_
     refine j.tkE (i:=11) (s2:=86) (j.pkZ 5) λ j=>?_
     refine j.tkE (i:=12) (s2:=86) (j.pkZ 5) (λ j=>aK1 14 ?_)
     refine j.stA 17 4 FldS.id (tp Z) [5,7,14,15,98] [0] λ j=>?_
     refine aHN (j.pkZ 5) ?_
     refine aK1 15 ?_
     refine j.zh 1 [(0,1),(17,4)] λ j=>?_
     refine aHN (j.pkZ 5) ?_
     refine aK0 ?_
     have j:=j.ncf (s:=0) 1 [17]
     have j:=j.clo (s:=5)
     have j:=j.asA 0 1 mI [17]
     cases h
     exact fz
   rintro _ _ ⟨_,Q,W,X,Y,A,B,C,j⟩
   have h:=k72
   have⟨o167,p167,k167⟩:=bs h
   refine wqj (λ a w=>∃ b167,o167=.inl b167/\(∃ M1 Q W X Y A B C,Sx (Frm.chg w0 G) 236 M M1 [oneB Q,W,X,Y,oneB A,oneB B,oneB C] [(5,dptr x2),(7,dis (.pointer (some ⟨b4,0,none⟩)))] [(17,4,dbox A 0 b167.2),(0,1,dnm (oMac ((x1.toNat,b4)::ps)) W ⟨b167.1⟩ (.pointer (some ⟨b0,0,none⟩)) [])] a w)) ?_ ?_
   ·refine j.zd [(0,1),(17,4)] p167 (λ j h=>?_) λ j h=>?_
    ·have⟨v171,p171,h⟩:=bs h
     refine j.zo [(0,1),(17,4)] (λ j=>Ka ?_)
     have⟨v175,p175,v177,p177,h⟩:=Kg h
     have⟨v178,p178,h⟩:=bs h
     refine j.hdF (s:=0) 1 true (λ _=>(Pb.fld owMachine.f4)) [17] λ g174 A174 _ hA174 j=>?_
     refine j.mintP (s:=0) 1 (Ya (owMachine.impE4 (YC (zG (yS p175).2)))) [17] λ b176 j=>?_
     refine j.zh 23 [(0,1),(17,4)] (λ j=>?_) (hs:=sc Z (oM Z U)<|
      sc Z (xNc Z T)<|
      sc Z (xFa Z Qj T)<|
      sc Z (xLc (sb:=0) (.head _) Z Z Z T Z)<|
      sc Z (oM Z T)<|
      sc Z (xIa (g:=g174) Z zbc T T Z (λ h=>hA174 h Z) p175)<|
      sc Z (xLdP (sb:=0) (Pb.fld owMachine.f4) (.head _) Z (λ h=>hA174 h Z) (.head _) (yS p175).2 (Nat.mul_one _) Z JV T Z)<|
      sc Z (xNc Z T)<|
      sc Z (xFa Z kF119_1 T)<|
      sc Z (xLf (sb:=0) (((Pb.fld owMachine.f4).rowP (.head _) p177).fld owGModR.f1) Z T Z)<|
      sc Z (oCI Z T cI)<|
      sc Z (oM Z T)<|
      sg Z Z (λ hg=>oM Z T)<|
      sg Z Z (λ hg=>jx Z V (zt))<|
      sc Z (Za Z T T)<|
      sc Z (oM Z T)<|
      sg Z Z (λ hg=>oM Z U)<|
      sg Z Z (λ hg=>oM Z T)<|
      sg Z Z (λ hg=>wB (l:=[.tmp 121,.tmp 122]) j.ob.sub Z (.cons (lendA (sb:=0) j.ob 1 V Z) (.cons (qR j.ob.sub V) .nil)) (xl (gh hg p178)) Z5)<|
      sg Z Z (λ hg=>oCI Z V cI)<|
      sg Z Z (λ hg=>oM Z V)<|
      sgg Z Z (λ hg=>oM Z U)<|
      sgg Z Z (λ hg=>oM Z T)<|.nil)
     have⟨v184,p184,h⟩:=bs h
     refine j.cSFhB (sb:=0) (l:=[.tmp 127]) 1 Z (λ _ h=>h) Z Z Z kN153 (λ hg=>(j.st.has 126 _ Z).1 hg) (by simp) (λ hg=>(.cons V .nil)) (λ hg=>Wp (gh hg p184)) [5,7,19,120,125] Z [17] Z Z (by decide) λ _ _ _ _ j=>?_
     have j:=j.gn
     refine j.zh 4 [(0,1),(17,4)] (λ j=>?_) (hs:=sgg Z Z (λ hg=>WA Spec.fld0 Z Z V)<|sgg Z Z (λ hg=>oCI Z V cI)<|sg Z Z (λ hg=>xk Z V (zbq hg Z))<|segZ)
     refine Kb ?_
     refine j.cq h (λ h=>?_) λ h=>?_
     ·refine j.zo [(0,1)] λ j=>?_
      have j:=j.asA 0 1 (wm (owMachine.imp4 (xE (λ _ h=>(.tail _ (.tail _ h)))))) []
      have h:=jo h k167
      have h:=jo h k8
      exact j.xF 0 1 h
     refine Ka ?_
     refine j.zh 2 [(0,1),(17,4)] λ j=>?_
     have⟨v196,p196,h⟩:=bs h
     refine j.cNA 1 0 (hR.impl_machine_load1 p196) [5,7] [17] λ j=>?_
     refine j.zh 5 [(0,1),(17,4)] (λ j=>Kb ?_)
     refine j.zd [(0,1),(17,4)] h (λ j h=>?_) λ j h=>?_
     ·refine j.zo [(0,1)] λ j=>?_
      have j:=j.asA 0 1 (wm (owMachine.imp4 (xE (λ _ h=>(.tail _ (.tail _ h)))))) []
      have h:=jo h k167
      have h:=jo h k8
      exact j.xF 0 1 h
     refine Ka ?_
     refine j.zh 2 [(0,1),(17,4)] (λ j=>?_) (hs:=sZ 1 (r:=by exact sc Z (Xc Z cI T)<|.nil))
     refine j.stA 17 4 FldS.id (tp Z) [5,7] [0] (λ j=>Kb ?_)
     have j:=j.asA 0 1 mI [17]
     exact flz h
    exact flz h
   rintro _ _ ⟨b167,rfl,⟨_,Q,W,X,Y,A,B,C,j⟩⟩
   have h:=jn k167
   refine Ka ?_
   refine j.zh 4 [(0,1)] λ j=>?_
   have⟨v214,p214,v216,p216,h⟩:=Kg h
   refine j.cSF (l:=[.tmp 146,.tmp 147]) 1 (j.bkP (sb:=0) (Pb.fld owMachine.f4) (.head _) p214) Z Z kN155 (j.st.has 144 _ Z) (by simp) (.cons T (.cons T .nil)) (FnS.any (jX p216)) [] Z [] Z Z (by decide) λ j=>?_
   have j:=j.gn
   refine Kb ?_
   exact flz h
  refine j.zd [(0,1)] h (λ j h=>?_) λ j h=>?_
  ·refine Ka ?_
   refine j.zh 3 [(0,1)] λ j=>?_
   have⟨v224,p224,h⟩:=bs h
   refine j.cNA 1 0 (hR.impl_machine_load1 p224) [7] [] λ j=>?_
   refine j.zh 5 [(0,1)] (λ j=>Kb ?_)
   refine j.zd [(0,1)] h (λ j h=>?_) λ j h=>?_
   ·refine j.zo [(0,1)] λ j=>?_
    have j:=j.asA 0 1 mI []
    have h:=jo h k8
    exact j.xF 0 1 h
   refine Ka ?_
   have⟨v235,p235,v237,p237,h⟩:=Kg h
   refine j.hdF (s:=0) 1 true (λ _=>(Pb.fld owMachine.f4)) [] λ g234 A234 _ hA234 j=>?_
   refine j.mintP (s:=0) 1 (Ya (owMachine.impE4 (YC (zG (yS p235).2)))) [] λ b236 j=>?_
   refine j.hdA 0 1 (((Pb.fld owMachine.f4).rowP (.head _) p237).fld owGModR.f5) [] λ g238 A238 _ hA238 j=>?_
   refine j.zh 11 [(0,1),(161,0)] (λ j=>?_) (hs:=sc Z (wA (α:=GAttr) (e:=206) Z (ht':=QC))<|sZ 5 (r:=by exact sc Z (xIa (g:=g234) Z zbc T T Z (λ h=>hA234 h Z) p235)<|sc Z (xLdP (sb:=0) (Pb.fld owMachine.f4) (.tail _ (.head _)) Z (λ h=>hA234 h Z) (.head _) (yS p235).2 (Nat.mul_one _) Z JV T Z)<|segZ))
   have⟨v243,p243,h⟩:=bs h
   refine j.appH 0 Z Z kE117 Z Z (j.rowH (sb:=0) (((Pb.fld owMachine.f4).rowP (.head _) p237).fld owGModR.f5) (.head _) Z (yA Z Z) Z Z) p243 [7] Z [0] Z Z λ g242 _ _ _ j=>?_
   have j:=j.gn
   refine j.zh 2 [(0,1),(172,0)] (λ j=>?_) (hs:=sc Z (op_lenT Z T)<|segZ)
   refine Kb ?_
   have j:=j.ncf (s:=0) 1 [172]
   refine wql h (λ s248 a w=>∃ M1 Q W X Y A B C,Sx (Frm.chg w0 G) 236 M M1 [oneB Q,W,X,Y,oneB A,oneB B,oneB C] [(173,dt (v243.length:Int)),(174,dt s248.2),(7,dis (.pointer (some ⟨b4,0,none⟩)))] [(172,0,dtip Q 206 v243),(0,1,dnm (oMac ((v224.2.1.toNat,b236)::((x1.toNat,b4)::ps))) W ⟨s248.1⟩ (.pointer (some ⟨b0,0,none⟩)) [])] a w) fx ?_
   rintro s248 z248 _ _ ⟨_,Q,W,X,Y,A,B,C,j⟩ hs248 hx248
   have h:y8 R x1 v243 s248=some z248:=hs248
   unfold y8 at h
   refine j.zd [(0,1),(172,0)] h (λ j h=>?_) λ j h=>?_
   ·refine wqk ?_
    refine za ?_
    have⟨o253,p253,k253⟩:=bs h
    refine wqj (λ a w=>∃ M1 Q W X Y A B C,Sx (Frm.chg w0 G) 236 M M1 [oneB Q,W,X,Y,oneB A,oneB B,oneB C] [(173,dt (v243.length:Int)),(174,dt s248.2),(7,dis (.pointer (some ⟨b4,0,none⟩)))] [(172,0,dtip Q 206 v243),(0,1,dnm (oMac ((v224.2.1.toNat,b236)::((x1.toNat,b4)::ps))) W ⟨o253⟩ (.pointer (some ⟨b0,0,none⟩)) [])] a w) ?_ ?_
    ·refine Ka ?_
     have⟨v254,p254,h⟩:=bs p253
     refine j.zh 2 [(0,1),(172,0)] (λ j=>?_) (hs:=sc Z (xIdxT Z QC T T p254)<|segZ)
     refine j.alA 5 zrGAttr [7,173,174,177] [0,172] λ b258 j=>?_
     have j:=j.gn
     refine j.stA 25 5 FldS.id (tp Z) [7,173,174] [0,172] (λ j=>Kb ?_)
     have⟨v262,p262,h⟩:=bs h
     refine j.zd [(0,1),(25,5),(172,0)] h (λ j h=>?_) λ j h=>?_
     ·refine Ka ?_
      refine j.zh 5 [(0,1),(172,0)] λ j=>?_
      have⟨v269,p269,v271,p271,h⟩:=Kg h
      refine j.cSF (l:=[.tmp 184,.tmp 186]) 1 (j.bkP (sb:=0) (Pb.fld owMachine.f4) (.tail _ (.head _)) p269) Z Z kN155 (j.st.has 182 _ Z) (by simp) (.cons T (.cons T .nil)) (FnS.any (jX p271)) [7,173,174] Z [172] Z Z (by decide) λ j=>?_
      have j:=j.gn
      refine Kb ?_
      cases h
      exact fz
     cases h
     exact fz
    rintro _ _ ⟨_,Q,W,X,Y,A,B,C,j⟩
    have h:=k253
    have⟨v275,p275,h⟩:=bs h
    exact j.zn [(0,1),(172,0)] h
   have j:=j.asA 0 1 mI [172]
   have h:=lo h hx248
   exact flz h
  refine j.zd [(0,1)] h (λ j h=>?_) λ j h=>?_
  ·refine Ka ?_
   refine j.zh 6 [(0,1)] (λ j=>?_) (hs:=sZ 5 (r:=by exact sc Z (Xc Z cI T)<|.nil))
   have⟨v285,p285,v287,p287,h⟩:=Kg h
   refine j.cSF (l:=[.tmp 193,.tmp 196]) 1 (j.bkP (sb:=0) (Pb.fld owMachine.f4) (.head _) p285) Z Z kN155 (j.st.has 191 _ Z) (by simp) (.cons T (.cons T .nil)) (FnS.any (jX p287)) [] Z [] Z Z (by decide) λ j=>?_
   have j:=j.gn
   refine Kb ?_
   exact flz h
  refine j.zd [(0,1)] h (λ j h=>?_) λ j h=>?_
  ·refine Ka ?_
   have⟨v293,p293,v294,p294,h⟩:=Kg h
   refine j.zh 7 [(0,1)] (λ j=>?_) (hs:=sZ 3 (r:=by exact sc Z (wB (l:=[.tmp 201,.tmp 203]) j.ob.sub Z (.cons (lendQ (sb:=0) j.ob 1 ((Pb.fld owMachine.f4).rowP (.head _) p293) T Z) (.cons (qR j.ob.sub T) .nil)) (wX p294) (JS zaa Y8))<|segZ))
   refine j.alA 6 Qb [205,206] [0] λ b299 j=>?_
   have j:=j.gn
   refine j.stA 26 6 FldS.id (tp Z) [206] [0] λ j=>?_
   refine j.zh 1 [(0,1),(26,6)] (λ j=>Kb ?_)
   refine j.zd [(0,1),(26,6)] h (λ j h=>?_) λ j h=>?_
   ·refine j.zo [(0,1)] λ j=>?_
    have j:=j.asA 0 1 mI []
    have h:=jo h k8
    exact j.xF 0 1 h
   refine j.zd [(0,1),(26,6)] h (λ j h=>?_) λ j h=>?_
   ·refine Ka ?_
    refine j.hdA 0 1 (Pb.fld owMachine.f5) [26] λ g313 A313 _ hA313 j=>?_
    refine j.zh 6 [(0,1)] (λ j=>?_) (hs:=sZ 5 (r:=by exact sc Z (yf (opds:=[.const (.int .i64 (-1))]) Z Z Z (.cons cI .nil))<|.nil))
    refine j.mvG (s:=229) (sb:=0) 1 3 (Pb.fld owMachine.f5) (.head _) (yA Z Z) [225,230] [] @λ G316 H316 j=>?_
    have j:=j.gs (Gs':=[oneB none,G316,oneB none,H316,oneB none,oneB none,oneB (some b299)])
    refine j.tipR (s:=229) 3 (by first | (simp;done) | exact oD rfl) [0] λ g318 j=>?_
    have⟨v321,p321,h⟩:=bs h
    refine j.apA 3 xv p321 [225] [0] λ g320 j=>?_
    have j:=j.gn
    refine j.zh 2 [(0,1),(231,3)] λ j=>?_
    have j:=j.tipW (s:=231) 3 [0]
    refine j.shA 0 231 1 3 (tp Z) [] [] λ j=>?_
    have j:=j.gn
    refine Kb ?_
    exact flz h
   refine j.held (λ _=>True) yc λ _ j=>?_
   refine j.tN 0 0 trivial λ _ j=>?_
   refine j.hdA 0 1 (Pb.fld owMachine.f5) [26] λ g331 A331 _ hA331 j=>?_
   refine j.drnE (D:=[_,_,_,_,_,_,_,_]) 8 [0] [[(0,nS)],[(0,nS)],[(208,1)],[(209,2)],[(210,3),(0,nS)],[(26,nS)],[(212,5)],[(213,6)],[(211,4),(214,7)],[(207,0)],[(216,9)],[(217,10),(215,8)]] (
    rc Z Z (oM Z U)<|
    rc Z Z (oM Z U)<|
    rc Z Z (xNc Z T)<|
    rc Z Z (xFa Z kF115_5 T)<|
    rc Z Z (xLc (sb:=0) (.head _) Z Z Z T Z)<|
    rc Z Z (yM GVal.fld1 Z T)<|
    rc Z Z (yx Z T)<|
    rc Z Z (yf (opds:=[.tmp 213]) Z Z Z (.cons T .nil))<|.nil) (by
 intro i hi x d hx
 simp only[List.mem_cons,List.not_mem_nil,or_false] at hi
 rcases hi with rfl
 all_goals (injection hx with hx;injection hx with h1 h2;subst h1;subst h2;rfl)) [207,211,214] [(0,1)] Z ⟨λ _ h=>h,trivial⟩ (λ _ _ j=>?_)
   refine j.mvG (s:=211) (sb:=0) 1 2 (Pb.fld owMachine.f5) (.head _) (yA Z Z) [207,214] [] λ j=>?_
   have j:=j.gn
   refine j.tipR (s:=211) 2 (by first | (simp;done) | exact oD rfl) [0] λ g336 j=>?_
   have⟨v339,p339,h⟩:=bs h
   refine j.apA 2 xv p339 [207] [0] λ g338 j=>?_
   have j:=j.gn
   refine j.zh 2 [(0,1),(215,2)] λ j=>?_
   have j:=j.tipW (s:=215) 2 [0]
   refine j.shA 0 215 1 2 (tp Z) [] [] λ j=>?_
   have j:=j.gn
   refine Kb ?_
   exact flz h
  refine j.zd [(0,1)] h (λ j h=>?_) λ j h=>?_
  ·refine j.zo [(0,1)] λ j=>?_
   have j:=j.asA 0 1 mI []
   have h:=jo h k8
   exact j.xF 0 1 h
  exact flz h
 rintro _ _ ⟨b8,rfl,⟨_,Q,W,X,Y,A,B,C,j⟩⟩
 have h:=jn k8
 refine j.zo [(0,1)] λ j=>?_
 have j:=j.asA 0 1 mI []
 exact j.xF 0 1 h
theorem kP107:isPt prog 107=true:=by kernel_rfl
def jZ(R:Rec)(x0:Tree)(x1:List Int)(x2:Str):Option ((Np Machine)×Int):=
(xg x0).bind λ v2=>
(gO ((!v2) == false) (wo x1)).bind λ v3=>
(gO (((!v2)||(!v3)) == false) (z7 x2)).bind λ v4=>
if(((!v2)||(!v3))||(!v4))=true then(some ((⟨none⟩:Np Machine),(-1:Int)))
else((ZZ x0 x1 (120:Int)).bind λ v15=>
(R.impl_machine_load1 v15 x2).bind λ v21=>
some ((⟨some v21.1⟩:Np Machine),v21.2.2))
theorem W1(hR:R.ok){r:(Np Machine)×Int}(h:jZ R x0 x1 x2=some r):Fn prog 77 [dt x0,dt x1,dt x2] (dtup [dt r.1,dt r.2]):=by
 refine fq1 1 func77 λ M _ _ j=>?_
 refine j.rg2 (sZ 1 (r:=by exact sc Z (oA Z JR)<|segZ)) [1,2,3] λ _ _ j=>?_
 have⟨v2,p2,v3,p3,h⟩:=Kg h
 have⟨v4,p4,h⟩:=bs h
 refine j.rg2 (sZ 1 (r:=by exact sc Z (oK (jN p2))<|sZ 3 (r:=by exact sg Z Z (λ hg=>oK (Zh (gh hg p3)))<|sZ 4 (r:=by exact sg Z Z (λ hg=>oK (xN (gh hg p4)))<|segZ)))) [1,2,3,23] λ _ _ j=>?_
 refine j.cq h (λ h=>?_) λ h=>?_
 ·refine j.rg2 (sc Z (oA Z JR)<|segZ) [6,7] λ _ _ j=>?_
  have j:=j.addL (s:=6) (y:=dt (⟨none⟩:Np Machine)) (np_none.2 (j.st.has 6 _ Z))
  cases h
  exact j.ret2 (j.frozen (t:=6)) (j.frozen (t:=7)) ⟨Z,Z⟩
 refine Ka ?_
 refine j.segA 2 [2,24,25] [] λ j=>?_
 have⟨v15,p15,h⟩:=bs h
 refine j.cN (l:=[.tmp 24,.tmp 25,.const (.int .i64 120)]) 0 (.cons T (.cons T (.cons cI .nil))) (zck p15) [2] [] λ _ _ _ _ j=>?_
 refine j.nmB (s:=26) 0 [] λ b17 j=>?_
 refine j.segA 1 [2] [(8,0)] (λ j=>Kb ?_)
 refine Ka ?_
 refine j.segA 2 [29] [(8,0),(28,0)] λ j=>?_
 have⟨v21,p21,h⟩:=bs h
 refine j.cSF (l:=[.tmp 29]) 0 (j.bkN (s:=8)) Z Z kN111 ((j.st.has 28 _ Z).1.trans (j.st.has 8 _ Z).1.symm) (by simp) (.cons T .nil) (hR.impl_machine_load1 p21) [] Z [] Z Z (by decide) λ j=>?_
 refine j.segA 5 [10] [(8,0)] (λ j=>Kb ?_)
 have j:=j.unm (s:=8) 0 []
 have j:=j.frzB (s:=8) 0 [10] []
 refine j.rg1 [6,7] λ _ _ j=>?_
 have j:=j.addL (s:=6) (y:=dt (⟨some v21.1⟩:Np Machine)) (np_some.2 (j.st.has 6 _ Z))
 cases h
 exact j.ret2 (j.frozen (t:=6)) (j.frozen (t:=7)) ⟨Z,Z⟩
def wv(_R:Rec)(x3:Int)(v10:Machine)(s13:(List Str)×Int):Option (((List Str)×Int)⊕(List Str)):=
if(cmpI .lss s13.2 (v10.log.length:Int))=true then(Option.bind (α:=(List Str)) ((atI v10.log s13.2).bind λ v19=>
if cmpI .eql v19.kind x3 then((appO 16 s13.1 ([v19.name]:List Str)).bind λ v32=>
some v32)
else(some s13.1)) λ o18=>
(i64 (s13.2+(1:Int))).bind λ v36=>
some (.inl (o18,v36)))
else(some (.inr s13.1))
def qD(R:Rec)(x0:Tree)(x1:List Int)(x2:Str)(x3:Int):Option (List Str):=
(jZ R x0 x1 x2).bind λ v2=>
Option.bind (α:=(List Str)) (if v2.1.o.isSome=true then((v2.1.o).bind λ v10=>
zP (λ s13=>wv R x3 v10 s13) ([],(0:Int)))
else(some [])) λ o6=>
some o6
theorem zcm(hR:R.ok){r:List Str}(h:qD R x0 x1 x2 x3=some r):FnOwn prog 78 [dt x0,dt x1,dt x2,dt x3] 9 r:=by
 unfold qD at h
 refine fnxO (fn:=f78) 2 func78 Z (oD Z) Z λ M w0 _ j=>?_
 refine j.sq2 (sP 1 (r:=by exact sc Z (oA Z (jy (α:=Str) (e:=9)))<|.nil)) [1,2,3,4] λ j=>?_
 obtain⟨v2,p2,h⟩:=bsW h (W1 hR)
 refine j.sq1 [3,9] λ j=>?_
 refine j.sqB (sc Z (wA (α:=Str) (e:=9) Z)<|segC) [3,9] [(11,0)] λ j=>?_
 have⟨o6,p6,k6⟩:=bs h
 refine jg (λ a w=>∃ M1 Q W,Sx (Frm.of w0) 44 M M1 [oneB Q,oneB W] [] [(11,0,dtip Q 9 o6)] a w) ?_ ?_
 ·refine j.sqB (sP 1 (r:=by exact sc Z (xNepNil Z kP107 T)<|.nil)) [3,9,23] [(11,0)] λ j=>?_
  refine j.cs p6 (λ _ h=>?_) λ _ h=>?_
  ·have⟨v10,p10,h⟩:=bs h
   refine j.sqB (sP 1 (r:=by exact sc Z (xNcO Z T p10)<|segC)) [3,27,28,29] [(11,0)] (λ j=>wp_block ?_)
   refine XI h (λ s13 a w=>∃ M1 Q W,Sx (Frm.of w0) 44 M M1 [oneB Q,oneB W] [(3,dt x3),(27,dt v10.log),(28,dt (v10.log.length:Int)),(29,dt s13.2)] [(11,0,dtip Q 9 s13.1)] a w) fx ?_
   rintro s13 z13 _ _ ⟨_,Q,W,j⟩ hs13 hx13
   have h:wv R x3 v10 s13=some z13:=hs13
   unfold wv at h
   refine j.sqA [3,27,28,29,30] [(11,0)] (λ j=>Kc ?_)
   refine j.cs h (λ _ h=>?_) λ _ h=>?_
   ·refine wp_skip ?_
    refine za ?_
    have⟨o18,p18,k18⟩:=bs h
    refine jg (λ a w=>∃ M1 Q W,Sx (Frm.of w0) 44 M M1 [oneB Q,oneB W] [(3,dt x3),(27,dt v10.log),(28,dt (v10.log.length:Int)),(29,dt s13.2)] [(11,0,dtip Q 9 o18)] a w) ?_ ?_
    ·refine wp_block ?_
     refine Kc ?_
     refine Ka ?_
     have⟨v19,p19,h⟩:=bs p18
     refine j.segA 2 [3,27,28,29,32] [(11,0)] λ j=>?_
     refine j.alA 1 zrGEvent [3,27,28,29,32] [11] λ b23 j=>?_
     refine j.stA 13 1 FldS.id (tp Z) [3,27,28,29] [11] (λ j=>Kb ?_)
     refine za ?_
     refine j.sqC [3,27,28,29,36] [(11,0),(13,1)] λ _ _ j=>?_
     refine j.cs h (λ _ h=>?_) λ _ h=>?_
     ·refine Ka ?_
      refine j.segC 4 [3,27,28,29,40] [(11,0),(37,0)] λ j=>?_
      have⟨v32,p32,h⟩:=bs h
      refine j.apA 0 xv p32 [3,27,28,29] [] λ g31 j=>?_
      refine j.segA 1 [3,27,28,29] [(11,0)] (λ j=>Kb ?_)
      refine z3 ?_
      refine za ?_
      cases h
      exact fx
     refine wp_skip ?_
     refine z3 ?_
     refine za ?_
     cases h
     exact fx
    rintro _ _ ⟨_,Q,W,j⟩
    have h:=k18
    have⟨v36,p36,h⟩:=bs h
    refine j.rgA [3,27,28,29] [(11,0)] (λ j=>za ?_)
    exact fl h
   refine wp_exit (zZ (zZ (y6 ?_)))
   refine za ?_
   have h:=lo h hx13
   cases h
   exact fx
  refine wp_skip ?_
  refine za ?_
  cases h
  exact fx
 rintro _ _ ⟨_,Q,W,j⟩
 have h:=k6
 refine j.sqA [] [(8,0)] (λ j=>wp_ret ?_)
 exact j.ret_own 0 h
def Zi(R:Rec)(x0:Tree)(x1:List Int)(x2:Str):Option (List Str):=
(qD R x0 x1 x2 (1:Int)).bind λ v4=>
some v4
theorem zc8(hR:R.ok){r:List Str}(h:Zi R x0 x1 x2=some r):FnN prog 37 [dt x0,dt x1,dt x2] (.ow (Ow.row 9 (Ow.frz (α:=Str))) r):=by
 refine fnN (fn:=f37) 1 func37 Z Z (λ M _ _ j=>wqw ?_)
 refine j.z1 (λ j=>?_) (hs:=sZ 1 (r:=by exact sc Z (oA Z (jC (α:=Str)))<|.nil))
 refine Ka ?_
 refine j.zg 3 λ j=>?_
 have⟨v4,p4,h⟩:=bs h
 refine j.cN (l:=[.tmp 7,.tmp 8,.tmp 9,.const (.int .i64 1)]) 0 (.cons T (.cons T (.cons T (.cons cI .nil)))) (zcm hR p4).n [] [] λ _ _ _ _ j=>?_
 refine j.nmR (s:=10) 0 Z Z (λ _ h=>h) [] Z λ g6 A6 _ hA6 j=>?_
 refine j.zh 1 [(6,0)] (λ j=>Kb ?_)
 have j:=j.unm (s:=6) 0 []
 exact j.rnO 0 h
def wG(_R:Rec)(v10:Machine)(s13:(List Str)×Int):Option (((List Str)×Int)⊕(List Str)):=
if(cmpI .lss s13.2 (v10.modules.length:Int))=true then(Option.bind (α:=(List Str)) ((atI v10.modules s13.2).bind λ v19=>
if v19.x.cached=true then((appO 16 s13.1 ([v19.x.name]:List Str)).bind λ v28=>
some v28)
else(some s13.1)) λ o18=>
(i64 (s13.2+(1:Int))).bind λ v32=>
some (.inl (o18,v32)))
else(some (.inr s13.1))
def jO(R:Rec)(x0:Tree)(x1:List Int)(x2:Str):Option (Int×(List Str)):=
(jZ R x0 x1 x2).bind λ v2=>
Option.bind (α:=(List Str)) (if v2.1.o.isSome=true then((v2.1.o).bind λ v10=>
zP (λ s13=>wG R v10 s13) ([],(0:Int)))
else(some [])) λ o6=>
some (v2.2,o6)
theorem zc9(hR:R.ok){r:Int×(List Str)}(h:jO R x0 x1 x2=some r):FnN prog 36 [dt x0,dt x1,dt x2] (.t2 (dt r.1) (Ow.row 9 (Ow.frz (α:=Str))) r.2):=by
 unfold jO at h
 refine fnN (fn:=f36) 1 func36 Z Z λ M w0 _ j=>?_
 refine j.sq2 (sP 2 (r:=by exact sc Z (oA Z (jy (α:=Str) (e:=9)))<|.nil)) [1,2,3] λ j=>?_
 obtain⟨v2,p2,h⟩:=bsW h (W1 hR)
 refine j.sq1 [8,9] λ j=>?_
 refine j.sqB (sc Z (wA (α:=Str) (e:=9) Z)<|segC) [8,9] [(10,0)] λ j=>?_
 have⟨o6,p6,k6⟩:=bs h
 refine jg (λ a w=>∃ M1 Q,Sx (Frm.of w0) 46 M M1 [oneB Q] [(9,dt v2.2)] [(10,0,dtip Q 9 o6)] a w) ?_ ?_
 ·refine j.sqB (sP 1 (r:=by exact sc Z (xNepNil Z kP107 T)<|.nil)) [8,9,22] [(10,0)] λ j=>?_
  refine j.cs p6 (λ _ h=>?_) λ _ h=>?_
  ·have⟨v10,p10,h⟩:=bs h
   refine j.sqB (sP 1 (r:=by exact sc Z (xNcO Z T p10)<|segC)) [9,26,27,28] [(10,0)] (λ j=>wp_block ?_)
   refine XI h (λ s13 a w=>∃ M1 Q,Sx (Frm.of w0) 46 M M1 [oneB Q] [(9,dt v2.2),(26,dt v10.modules),(27,dt (v10.modules.length:Int)),(28,dt s13.2)] [(10,0,dtip Q 9 s13.1)] a w) fx ?_
   rintro s13 z13 _ _ ⟨_,Q,j⟩ hs13 hx13
   have h:wG R v10 s13=some z13:=hs13
   unfold wG at h
   refine j.sqA [9,26,27,28,29] [(10,0)] (λ j=>Kc ?_)
   refine j.cs h (λ _ h=>?_) λ _ h=>?_
   ·refine wp_skip ?_
    refine za ?_
    have⟨o18,p18,k18⟩:=bs h
    refine jg (λ a w=>∃ M1 Q,Sx (Frm.of w0) 46 M M1 [oneB Q] [(9,dt v2.2),(26,dt v10.modules),(27,dt (v10.modules.length:Int)),(28,dt s13.2)] [(10,0,dtip Q 9 o18)] a w) ?_ ?_
    ·refine wp_block ?_
     have⟨v19,p19,h⟩:=bs p18
     refine j.sqB (sP 1 (r:=by exact sc Z (OpRel.bx (zz Z (ht:=JV) T))<|segC)) [9,12,26,27,28] [(10,0)] λ j=>?_
     refine j.sqC [9,12,26,27,28,35] [(10,0)] λ _ _ j=>?_
     refine j.cs h (λ _ h=>?_) λ _ h=>?_
     ·refine Ka ?_
      refine j.segC 6 [9,26,27,28,41] [(10,0),(36,0)] λ j=>?_
      have⟨v28,p28,h⟩:=bs h
      refine j.apA 0 xv p28 [9,26,27,28] [] λ g27 j=>?_
      refine j.segA 1 [9,26,27,28] [(10,0)] (λ j=>Kb ?_)
      refine z3 ?_
      refine za ?_
      cases h
      exact fx
     refine wp_skip ?_
     refine z3 ?_
     refine za ?_
     cases h
     exact fx
    rintro _ _ ⟨_,Q,j⟩
    have h:=k18
    have⟨v32,p32,h⟩:=bs h
    refine j.rgA [9,26,27,28] [(10,0)] (λ j=>za ?_)
    exact fl h
   refine wp_exit (zZ (zZ (y6 ?_)))
   refine za ?_
   have h:=lo h hx13
   cases h
   exact fx
  refine wp_skip ?_
  refine za ?_
  cases h
  exact fx
 rintro _ _ ⟨_,Q,j⟩
 have h:=k6
 refine j.sqA [6] [(7,0)] (λ j=>wp_ret ?_)
 have j:=j.tipW (s:=7) 0 []
 exact j.rn2 0 Z Z Z (λ _ h=>h) h
end Go.Proofs.YtifgdhfcoaognaaGreatDoor
