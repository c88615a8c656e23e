/-
  Models of functions, and their walks: printed by a program of our own (wip/mxo.py).
  Models of functions, and their walks: printed by a program of our own (wip/mxo.py).
-/
import Derived.Test.YtiiiokblnnlapaaGreatDoorRBLD
import Derived.Test.YtiiiokblnnlapaaGreatDoorRHLD
import Derived.Test.YtiiiokblnnlapaaGreatDoorROLD
namespace Go.Proofs.YtiiiokblnnlapaaGreatDoor
open Go.RowKit
attribute [local irreducible] OpRel OpdR
set_option maxRecDepth 10000
set_option maxHeartbeats 1600000
theorem kF119_1:fldB Tryz.prog 119 1 1=true:=by kernel_rfl
theorem kF108_3:fldB Tryz.prog 108 3 3=true:=by kernel_rfl
theorem kT105:tyB Tryz.prog 105 false 1=true:=by kernel_rfl
theorem kF108_8:fldB Tryz.prog 108 8 8=true:=by kernel_rfl
theorem kN221:fnB Tryz.prog 221=true:=by kernel_rfl
theorem kN200:fnB Tryz.prog 200=true:=by kernel_rfl
theorem kN156:fnB Tryz.prog 156=true:=by kernel_rfl
theorem kN181:fnB Tryz.prog 181=true:=by kernel_rfl
theorem kB111:bldB Tryz.prog 111 [1,1,1,1,1,1]=true:=by kernel_rfl
theorem kC111:jU Tryz.prog 111 [1,1,1,1,1,1]=some zpGMod:=by kernel_rfl
theorem kI106:sliB Tryz.prog 106 109 1=true:=by kernel_rfl
theorem kY106:zlB Tryz.prog 106=true:=by kernel_rfl
theorem kE106:elB Tryz.prog 106 109 1 8=true:=by kernel_rfl
theorem kN182:fnB Tryz.prog 182=true:=by kernel_rfl
theorem kN201:fnB Tryz.prog 201=true:=by kernel_rfl
theorem kN163:fnB Tryz.prog 163=true:=by kernel_rfl
theorem kN162:fnB Tryz.prog 162=true:=by kernel_rfl
theorem kN254:fnB Tryz.prog 254=true:=by kernel_rfl
theorem kF131_0:fldB Tryz.prog 131 0 0=true:=by kernel_rfl
theorem kF108_5:fldB Tryz.prog 108 5 5=true:=by kernel_rfl
theorem kF131_1:fldB Tryz.prog 131 1 1=true:=by kernel_rfl
structure Rec where
 spec_importName:Runner->Str->Option (Runner×Int)
 spec_fromName:Runner->Int->Str->Option (Runner×GVal)
 spec_runFrom:Runner->Int->Stmt->Option Runner
 spec_runStar:Runner->Int->Stmt->Option Runner
 spec_runStmt:Runner->Int->Stmt->Option Runner
 spec_runBody:Runner->Int->(List Stmt)->Option Runner
 impl_machine_load1:Machine->Str->Option (Machine×Int×Int)
 impl_machine_body:Machine->Int->Spec->Option (Machine×Int)
 impl_machine_do:Machine->Int->Stmt->Option (Machine×Int)
def Rec.no:Rec:=⟨λ _ _=>none,λ _ _ _=>none,λ _ _ _=>none,λ _ _ _=>none,λ _ _ _=>none,λ _ _ _=>none,λ _ _=>none,λ _ _ _=>none,λ _ _ _=>none⟩
structure Rec.ok(R:Rec):Prop where
 spec_importName:∀ {x0:Runner} {x1:Str} {r:Runner×Int},R.spec_importName x0 x1=some r->FnS Tryz.prog 178 oRun ⟨x0⟩ [dt x1] ⟨r.1⟩ (.frz (dt r.2))
 spec_fromName:∀ {x0:Runner} {x1:Int} {x2:Str} {r:Runner×GVal},R.spec_fromName x0 x1 x2=some r->FnS Tryz.prog 287 oRun ⟨x0⟩ [dt x1,dt x2] ⟨r.1⟩ (.frz (dt r.2))
 spec_runFrom:∀ {x0:Runner} {x1:Int} {x2:Stmt} {r:Runner},R.spec_runFrom x0 x1 x2=some r->FnS Tryz.prog 273 oRun ⟨x0⟩ [dt x1,dt x2] ⟨r⟩ .gone
 spec_runStar:∀ {x0:Runner} {x1:Int} {x2:Stmt} {r:Runner},R.spec_runStar x0 x1 x2=some r->FnS Tryz.prog 274 oRun ⟨x0⟩ [dt x1,dt x2] ⟨r⟩ .gone
 spec_runStmt:∀ {x0:Runner} {x1:Int} {x2:Stmt} {r:Runner},R.spec_runStmt x0 x1 x2=some r->FnS Tryz.prog 250 oRun ⟨x0⟩ [dt x1,dt x2] ⟨r⟩ .gone
 spec_runBody:∀ {x0:Runner} {x1:Int} {x2:List Stmt} {r:Runner},R.spec_runBody x0 x1 x2=some r->FnS Tryz.prog 216 oRun ⟨x0⟩ [dt x1,dt x2] ⟨r⟩ .gone
 impl_machine_load1:∀ {x0:Machine} {x1:Str} {r:Machine×Int×Int},R.impl_machine_load1 x0 x1=some r->∀ {ps:List (Nat×Nat)},FnS Tryz.prog 156 (oMac ps) ⟨x0⟩ [dt x1] ⟨r.1⟩ (.frz (dtup [dt r.2.1,dt r.2.2]))
 impl_machine_body:∀ {x0:Machine} {x1:Int} {x2:Spec} {r:Machine×Int},R.impl_machine_body x0 x1 x2=some r->∀ {ps:List (Nat×Nat)},FnS Tryz.prog 182 (oMac ps) ⟨x0⟩ [dt x1,dt x2] ⟨r.1⟩ (.frz (dt r.2))
 impl_machine_do:∀ {x0:Machine} {x1:Int} {x2:Stmt} {r:Machine×Int},R.impl_machine_do x0 x1 x2=some r->∀ {ps:List (Nat×Nat)},FnS Tryz.prog 221 (oMac ps) ⟨x0⟩ [dt x1,dt x2] ⟨r.1⟩ (.frz (dt r.2))
theorem Rec.no_ok:Rec.no.ok:=⟨(λ h=>nomatch h),(λ h=>nomatch h),(λ h=>nomatch h),(λ h=>nomatch h),(λ h=>nomatch h),(λ h=>nomatch h),(λ h=>nomatch h),(λ h=>nomatch h),(λ h=>nomatch h)⟩
def yi(R:Rec)(x1:Int)(v20:List Stmt)(s24:Machine×Int×Int):Option ((Machine×Int×Int)⊕(Machine×Int)):=
if(cmpI .lss s24.2.2 (v20.length:Int))=true then((atI v20 s24.2.2).bind λ v29=>
if(cmpI .eql s24.1.left (0:Int))=true then(some (.inr (s24.1,(6:Int))))
else((i64 (s24.1.left - (1:Int))).bind λ v41=>
(R.impl_machine_do ({ s24.1 with left:=v41 }) x1 v29).bind λ v47=>
if(cmpI .neq v47.2 (0:Int))=true then(some (.inr (v47.1,v47.2)))
else((i64 (s24.2.2+(1:Int))).bind λ v54=>
some (.inl (v47.1,v47.2,v54)))))
else(some (.inr (s24.1,s24.2.1)))
def wy(R:Rec)(x0:Machine)(x1:Int)(x2:Spec):Option (Machine×Int):=
(atI x0.modules x1).bind λ _v3=>
(x0.modules[x1.toNat]?).bind λ v5=>
(yA x0 (0:Int) v5.x.name).bind λ v12=>
Option.bind (α:=Machine×Int) (if(cmpI .geq x2.file (0:Int))=true then((atI v12.t.files x2.file).bind λ v19=>
(v12.load.g v19).bind λ v20=>
zX (λ s24=>yi R x1 v20 s24) (v12,(0:Int),(0:Int)))
else(some (v12,(0:Int)))) λ o15=>
Option.bind (α:=Machine) (if(cmpI .eql o15.2 (0:Int))=true then((yA o15.1 (1:Int) v5.x.name).bind λ v65=>
some v65)
else((yA o15.1 (2:Int) v5.x.name).bind λ v69=>
some v69)) λ o59=>
some (o59,o15.2)
theorem WD{R:Rec}(hR:R.ok){ps:List (Nat×Nat)}{x0:Machine}{x1:Int}{x2:Spec}{r:Machine×Int}(h:wy R x0 x1 x2=some r):FnS Tryz.prog 182 (oMac ps) ⟨x0⟩ [dt x1,dt x2] ⟨r.1⟩ (.frz (dt r.2)):=by
 unfold wy at h
 refine fnSB (fn:=Tryz.f182) 0 2 Tryz.func182 rfl (of_decide_eq_true rfl) rfl (λ M G w0 b0 _ st0=>?_)
 refine st0.sqA [1,5] [(0,0)] (λ _ _ st1=>?_)
 obtain⟨v3,p3,h6⟩:=bs h
 obtain⟨v5,p5,h7⟩:=bs h6
 refine st1.hdF (s:=0) 0 true (λ _=>((PV.root.box rfl).fld owMachine.f4)) rfl rfl iI [] rfl (λ g2 A2 _ hA2 st2=>?_)
 refine st2.mintP (s:=0) 0 rfl rfl iI (qr (owMachine.impE4 (qX (zz (yt p3).2)))) [] rfl (λ b4 st4=>?_)
 refine st4.sqB (sc rfl (oM rfl (zg rfl))<|sc rfl (xNc rfl (tp rfl))<|sc rfl (xFa rfl qk (tp rfl))<|sc rfl (xLc (sb:=0) (.head _) rfl rfl rfl YD (tp rfl) rfl)<|sc rfl (oM rfl (tp rfl))<|sc rfl (xIa (g:=g2) rfl XQ (tp rfl) (tp rfl) rfl (λ h=>hA2 h rfl) p3)<|sc rfl (xLdP (sb:=0) ((PV.root.box rfl).fld owMachine.f4) (.head _) rfl (λ h=>hA2 h rfl) (.head _) (yt p3).2 (Nat.mul_one _) rfl Xn (tp rfl) rfl)<|sc rfl (xNc rfl (tp rfl))<|sc rfl (xFa rfl ZR (tp rfl))<|sc rfl (xLf (sb:=0) ((((PV.root.box rfl).fld owMachine.f4).rowP (.head _) p5).fld owGModR.f0) rfl kT9 (tp rfl) rfl)<|sc rfl (oA rfl (tp rfl))<|.nil) [1,5,7] [(0,0)] (λ _ _ st8=>?_)
 have st9:=st8.ncf (s:=0) 0 rfl rfl iI [] rfl
 refine wp_seq (wp_region_list ?_)
 refine st9.segB 2 (sc rfl (oM rfl (zg rfl))<|sc rfl (oM rfl (tp rfl))<|.nil) [1,5,7,21,22] [(0,0)] (λ _ _ st10=>?_)
 obtain⟨v12,p12,h13⟩:=bs h7
 refine st10.cSF (l:=[.const (.int .i64 0),.tmp 22]) 0 (st10.bkN (s:=0) rfl iI) rfl rfl kN220 (Eq.trans (st10.st.has 21 _ rfl) (st10.st.has 0 _ rfl).1.symm) (by simp) (.cons cI (.cons (tp rfl) .nil)) (FnS.any (jw p12)) [1,5,7] rfl [] rfl rfl (by decide) (λ G11 M11 _ _ st11=>?_)
 refine wpList_nil (za ?_)
 refine st11.sqA [1,5,7,8] [(0,0)] (λ _ _ st14=>?_)
 obtain⟨o15,p15,k15⟩:=bs h13
 refine zo (λ a w=>∃ M1 q15_0 q15_1,Sx (Frm.chg w0 G) 74 M M1 [q15_0,oneB q15_1] [(7,dt v5.x.name),(8,dt o15.2)] [(0,0,dnm (oMac ((x1.toNat,b4)::ps)) q15_0 ⟨o15.1⟩ (.pointer (some ⟨b0,0,none⟩)) [])] a w) ?_ ?_
 ·
  refine st14.sqA [1,5,7,8,26] [(0,0)] (λ _ _ st16=>?_)
  refine st16.cs rfl p15 (λ _ h17=>?_) (λ _ h18=>?_)
  ·
   refine wp_seq ?_
   obtain⟨v19,p19,h21⟩:=bs h17
   obtain⟨v20,p20,h22⟩:=bs h21
   refine st16.dr (D:=[_,_,_,_,_,_,_,_,_,_,_,_,_,_,_,_]) zK [[],[0],[0,1],[0,1,2],[],[4],[4,5],[4,5,6],[4,5,6,7],[],[9],[4,5,6,7,8,9,10],[4,5,6,7,8,9,10,11],[0,1,2,3,4,5,6,7,8,9,10,11,12],[0,1,2,3,4,5,6,7,8,9,10,11,12,13],[]] [[(0,none)],[(27,some 0)],[(28,some 1)],[(29,some 2),(0,none)],[(0,none)],[(31,some 4)],[(32,some 5)],[(33,some 6)],[(34,some 7),(0,none)],[(5,none)],[(36,some 9)],[(35,some 8),(37,some 10)],[(38,some 11)],[(30,some 3),(39,some 12)],[(40,some 13)],[]] (by decide +kernel) (
    rc rfl rfl (oM rfl (zg rfl))<|rc rfl rfl (xNc rfl (tp rfl))<|rc rfl rfl (xFa rfl kF108_3 (tp rfl))<|rc rfl rfl (OpRel.fnv (xLf (sb:=0) ((PV.root.box rfl).fld owMachine.f3) rfl kT105 (tp rfl) rfl))<|rc rfl rfl (oM rfl (zg rfl))<|rc rfl rfl (xNc rfl (tp rfl))<|rc rfl rfl (xFa rfl kF108_0 (tp rfl))<|rc rfl rfl (xFa rfl qP (tp rfl))<|rc rfl rfl (xLf (sb:=0) (((PV.root.box rfl).fld owMachine.f0).fld Tree.z0) rfl kT28 (tp rfl) rfl)<|rc rfl rfl (zh Spec.fld1 rfl kF119_1 (tp rfl))<|rc rfl rfl (ze rfl kT3 (tp rfl))<|rc rfl rfl (xIdx rfl kS28 (tp rfl) (tp rfl) p19)<|rc rfl rfl (ze rfl kT94 (tp rfl))<|rc rfl rfl (xCaF1 rfl (tp rfl) (tp rfl) p20)<|rc rfl rfl (wz rfl kL92 (tp rfl))<|rc rfl rfl (oM rfl cI)<|.nil) [1,7,8,40,41,42] rfl [(0,0)] rfl iT (λ _ _ st23=>?_)
   refine za (wp_block ?_)
   refine zO h22 (λ s24 a w=>∃ M1 q24_0 q24_1,Sx (Frm.chg w0 G) 74 M M1 [q24_0,oneB q24_1] [(1,dt x1),(7,dt v5.x.name),(8,dt s24.2.1),(40,dt v20),(41,dt (v20.length:Int)),(42,dt s24.2.2)] [(0,0,dnm (oMac ((x1.toNat,b4)::ps)) q24_0 ⟨s24.1⟩ (.pointer (some ⟨b0,0,none⟩)) [])] a w) ⟨_,_,_,st23.sel [1,7,8,40,41,42] rfl [(0,0)] rfl iT⟩ ?_
   rintro s24 z24 a24 w24 ⟨M24,q24_0,q24_1,st24⟩ hs24 hx24
   have h25:yi R x1 v20 s24=some z24:=hs24
   unfold yi at h25
   refine st24.sqA [1,7,8,40,41,42,43] [(0,0)] (λ _ _ st26=>?_)
   refine wp_seq ?_
   refine st26.cs rfl h25 (λ _ h27=>?_) (λ _ h28=>?_)
   ·
    refine wp_skip (za (wp_seq (wp_block (wp_seq (wp_region_list ?_)))))
    obtain⟨v29,p29,h30⟩:=bs h27
    refine st26.segA 2 [1,7,40,41,42,45] [(0,0)] (λ _ _ st31=>?_)
    refine st31.alloc 1 rfl rfl kZ173 zrStmt (by simp) [1,7,40,41,42,45] rfl [0] rfl rfl (λ b33 M33 _ _ st33=>?_)
    refine st33.store (sb:=10) 1 FldS.id rfl rfl rfl wx rfl rfl (tp rfl) rfl [1,7,40,41,42] rfl [0] rfl rfl (λ M35 _ st35=>?_)
    refine wpList_nil (za (wp_seq ?_))
    refine st35.sqB (sc rfl (oM rfl (zg rfl))<|sc rfl (xNc rfl (tp rfl))<|sc rfl (xFa rfl kF108_8 (tp rfl))<|sc rfl (xLf (sb:=0) ((PV.root.box rfl).fld owMachine.f8) rfl kT3 (tp rfl) rfl)<|sc rfl (oCI rfl (tp rfl) cI)<|.nil) [1,7,40,41,42,50] [(0,0),(10,1)] (λ _ _ st36=>?_)
    refine st36.cs rfl h30 (λ _ h37=>?_) (λ _ h38=>?_)
    ·
     refine st36.sqA [7,8] [(0,0)] (λ _ _ st39=>?_)
     refine wp_exit (zn (exit_out (by decide) (zn (zn (zG ?_)))))
     refine za ?_
     have h40:=lo h37 hx24
     obtain rfl:=Option.some.inj h40
     exact⟨_,_,_,st39.sel [7,8] rfl [(0,0)] rfl iT⟩
    refine wp_skip (za (wp_seq (wp_region_list ?_)))
    obtain⟨v41,p41,h42⟩:=bs h38
    refine st36.segB 7 (sc rfl (oM rfl (zg rfl))<|sc rfl (xNc rfl (tp rfl))<|sc rfl (xFa rfl kF108_8 (tp rfl))<|sc rfl (xLf (sb:=0) ((PV.root.box rfl).fld owMachine.f8) rfl kT3 (tp rfl) rfl)<|sc rfl (xAr rfl (tp rfl) cI p41)<|sc rfl (xNc rfl (tp rfl))<|sc rfl (xFa rfl kF108_8 (tp rfl))<|.nil) [1,7,40,41,42,55,57] [(0,0),(10,1)] (λ _ _ st43=>?_)
    refine st43.stF (sb:=0) 0 ((PV.root.box rfl).fld owMachine.f8) rfl rfl rfl kT3 (by simp) (tp rfl) (tp rfl) rfl rfl iI [1,7,40,41,42] rfl [10] rfl rfl (λ _ st44=>?_)
    refine wpList_nil (za (wp_seq (wp_region_list ?_)))
    refine st44.segB 3 (sc rfl (oM rfl (zg rfl))<|sc rfl (oM rfl (tp rfl))<|sc rfl (zN rfl wx (tp rfl))<|.nil) [1,7,40,41,42,58,59,60] [(0,0)] (λ _ _ st45=>?_)
    obtain⟨v47,p47,h48⟩:=bs h42
    refine st45.cSF (l:=[.tmp 59,.tmp 60]) 0 (st45.bkN (s:=0) rfl iI) rfl rfl kN221 (Eq.trans (st45.st.has 58 _ rfl) (st45.st.has 0 _ rfl).1.symm) (by simp) (.cons (tp rfl) (.cons (tp rfl) .nil)) (hR.impl_machine_do p47) [1,7,40,41,42] rfl [] rfl rfl (by decide) (λ G46 M46 _ _ st46=>?_)
    refine st46.segA 1 [1,7,8,40,41,42] [(0,0)] (λ _ _ st49=>?_)
    refine wpList_nil (za ?_)
    refine st49.sqA [1,7,8,40,41,42,63] [(0,0)] (λ _ _ st50=>?_)
    refine st50.cs rfl h48 (λ _ h51=>?_) (λ _ h52=>?_)
    ·
     refine wp_exit (exit_out (by decide) (zn (zn (zG ?_))))
     refine za ?_
     have h53:=lo h51 hx24
     obtain rfl:=Option.some.inj h53
     exact⟨_,_,_,st50.sel [7,8] rfl [(0,0)] rfl iT⟩
    refine wp_skip (zi (za ?_))
    obtain⟨v54,p54,h55⟩:=bs h52
    refine st50.rgA [1,7,8,40,41,42] [(0,0)] (λ _ _ st56=>?_)
    refine za ?_
    exact⟨_,(Option.some.inj h55).symm,⟨_,_,_,st56.sel [1,7,8,40,41,42] rfl [(0,0)] rfl iT⟩⟩
   refine wp_exit (zn (zn (zG ?_)))
   refine za ?_
   have h57:=lo h28 hx24
   obtain rfl:=Option.some.inj h57
   exact⟨_,_,_,st26.sel [7,8] rfl [(0,0)] rfl iT⟩
  refine wp_skip (za ?_)
  obtain rfl:=Option.some.inj h18
  exact⟨_,_,_,st16.sel [7,8] rfl [(0,0)] rfl iT⟩
 rintro a15 w15 ⟨M15,q15_0,q15_1,st15⟩
 have h58:=k15
 obtain⟨o59,p59,k59⟩:=bs h58
 refine zo (λ a w=>∃ M1 q59_0 q59_1,Sx (Frm.chg w0 G) 74 M M1 [q59_0,oneB q59_1] [(8,dt o15.2)] [(0,0,dnm (oMac ((x1.toNat,b4)::ps)) q59_0 ⟨o59⟩ (.pointer (some ⟨b0,0,none⟩)) [])] a w) ?_ ?_
 ·
  refine st15.sqA [7,8,66] [(0,0)] (λ _ _ st60=>?_)
  refine st60.cs rfl p59 (λ _ h61=>?_) (λ _ h62=>?_)
  ·
   refine wp_region_list ?_
   refine st60.segB 2 (sc rfl (oM rfl (zg rfl))<|sc rfl (oM rfl (tp rfl))<|.nil) [8,67,68] [(0,0)] (λ _ _ st63=>?_)
   obtain⟨v65,p65,h66⟩:=bs h61
   refine st63.cSF (l:=[.const (.int .i64 1),.tmp 68]) 0 (st63.bkN (s:=0) rfl iI) rfl rfl kN220 (Eq.trans (st63.st.has 67 _ rfl) (st63.st.has 0 _ rfl).1.symm) (by simp) (.cons cI (.cons (tp rfl) .nil)) (FnS.any (jw p65)) [8] rfl [] rfl rfl (by decide) (λ G64 M64 _ _ st64=>?_)
   refine wpList_nil (za ?_)
   obtain rfl:=Option.some.inj h66
   exact⟨_,_,_,st64.sel [8] rfl [(0,0)] rfl iT⟩
  refine wp_region_list ?_
  refine st60.segB 2 (sc rfl (oM rfl (zg rfl))<|sc rfl (oM rfl (tp rfl))<|.nil) [8,70,71] [(0,0)] (λ _ _ st67=>?_)
  obtain⟨v69,p69,h70⟩:=bs h62
  refine st67.cSF (l:=[.const (.int .i64 2),.tmp 71]) 0 (st67.bkN (s:=0) rfl iI) rfl rfl kN220 (Eq.trans (st67.st.has 70 _ rfl) (st67.st.has 0 _ rfl).1.symm) (by simp) (.cons cI (.cons (tp rfl) .nil)) (FnS.any (jw p69)) [8] rfl [] rfl rfl (by decide) (λ G68 M68 _ _ st68=>?_)
  refine wpList_nil (za ?_)
  obtain rfl:=Option.some.inj h70
  exact⟨_,_,_,st68.sel [8] rfl [(0,0)] rfl iT⟩
 rintro a59 w59 ⟨M59,q59_0,q59_1,st59⟩
 have h71:=k59
 refine st59.sqA [6] [(0,0)] (λ _ _ st72=>?_)
 refine wp_ret ?_
 have st73:=st72.asO (s:=0) 0 rfl rfl iI (xj (owMachine.imp4 (yR (λ _ h=>(.tail _ h))))) [] rfl
 exact st73.rsF (s:=0) 0 rfl rfl rfl iI (bxr h71) yb
def wd(R:Rec)(x0:Machine)(x1:Str):Option (Machine×Int×Int):=
(zU x0 x1).bind λ v2=>
if(cmpI .geq v2 (0:Int))=true then((xS x0 v2).bind λ v10=>
some (v10.1,v10.2,(0:Int)))
else((yT x1).bind λ v14=>
Option.bind (α:=Machine⊕(Machine×Int×Int)) (if(decide (v14≠(⟨[]⟩:Str)))=true then((R.impl_machine_load1 x0 v14).bind λ v23=>
if(cmpI .neq v23.2.2 (0:Int))=true then(some (.inr (v23.1,(-1:Int),v23.2.2)))
else((zU v23.1 x1).bind λ v32=>
if(cmpI .geq v32 (0:Int))=true then((xS v23.1 v32).bind λ v40=>
some (.inr (v40.1,v40.2,(0:Int))))
else(some (.inl v23.1))))
else(some (.inl x0))) (Sum.elim (λ b17=>
(yG b17 x1).bind λ v48=>
if(cmpI .eql v48.2.kind (0:Int))=true then(some (v48.1,(-1:Int),(1:Int)))
else((appO 8 [] v48.2.roots).bind λ v63=>
(appO 8 v48.1.modules [⟨(⟨x1,v48.2.kind,v63,true,false,[]⟩:GMod)⟩]).bind λ v84=>
(R.impl_machine_body ({ v48.1 with modules:=v84 }) (v48.1.modules.length:Int) v48.2).bind λ v93=>
if(cmpI .neq v93.2 (0:Int))=true then((v93.1.modules[v48.1.modules.length]?).bind λ v100=>
some ({ v93.1 with modules:=(v93.1.modules.set v48.1.modules.length ⟨{ v100.x with cached:=false }⟩) },(-1:Int),v93.2))
else((v93.1.modules[v48.1.modules.length]?).bind λ v106=>
Option.bind (α:=Machine) ((zU ({ v93.1 with modules:=(v93.1.modules.set v48.1.modules.length ⟨{ v106.x with done:=true }⟩) }) v14).bind λ v111=>
if(decide (v14≠(⟨[]⟩:Str))&&cmpI .geq v111 (0:Int))=true then((atI (v93.1.modules.set v48.1.modules.length ⟨{ v106.x with done:=true }⟩) v111).bind λ _v118=>
(wI x1).bind λ v120=>
((v93.1.modules.set v48.1.modules.length ⟨{ v106.x with done:=true }⟩)[v111.toNat]?).bind λ v125=>
(ye v125.x v120 (⟨(1:Int),(v48.1.modules.length:Int)⟩:GVal)).bind λ v127=>
some ({ v93.1 with modules:=((v93.1.modules.set v48.1.modules.length ⟨{ v106.x with done:=true }⟩).set v111.toNat ⟨v127⟩) }))
else(some ({ v93.1 with modules:=(v93.1.modules.set v48.1.modules.length ⟨{ v106.x with done:=true }⟩) }))) λ o110=>
some (o110,(v48.1.modules.length:Int),(0:Int))))) some))
theorem Wg{R:Rec}(hR:R.ok){ps:List (Nat×Nat)}{x0:Machine}{x1:Str}{r:Machine×Int×Int}(h:wd R x0 x1=some r):FnS Tryz.prog 156 (oMac ps) ⟨x0⟩ [dt x1] ⟨r.1⟩ (.frz (dtup [dt r.2.1,dt r.2.2])):=by
 unfold wd at h
 refine fnSB (fn:=Tryz.f156) 5 7 Tryz.func156 rfl (of_decide_eq_true rfl) rfl (λ M G w0 b0 _ st0=>?_)
 refine st0.sqA [1] [(0,5)] (λ _ _ st1=>?_)
 refine wp_seq ?_
 obtain⟨v2,p2,h3⟩:=bs h
 refine st1.sqB (sc rfl (oM rfl (zg rfl))<|sc rfl (oM rfl (tp rfl))<|sc rfl (xQ (l:=[.tmp 16,.tmp 17]) st1.ob.sub rfl kN113 (.cons (lendA (sb:=0) st1.ob 5 (tp rfl) rfl iI) (.cons (jV st1.ob.sub (tp rfl)) .nil)) (xa p2) yb)<|sc rfl (oA rfl (tp rfl))<|.nil) [1,6] [(0,5)] (λ _ _ st4=>?_)
 refine st4.sqA [1,6,20] [(0,5)] (λ _ _ st5=>?_)
 refine st5.cs rfl h3 (λ _ h6=>?_) (λ _ h7=>?_)
 ·
  refine wp_seq (wp_region_list ?_)
  refine st5.segB 2 (sc rfl (oM rfl (zg rfl))<|sc rfl (oM rfl (tp rfl))<|.nil) [21,22] [(0,5)] (λ _ _ st8=>?_)
  obtain⟨v10,p10,h11⟩:=bs h6
  refine st8.cSF (l:=[.tmp 22]) 5 (st8.bkN (s:=0) rfl iI) rfl rfl kN200 (Eq.trans (st8.st.has 21 _ rfl) (st8.st.has 0 _ rfl).1.symm) (by simp) (.cons (tp rfl) .nil) (YF p10) [] rfl [] rfl rfl (by decide) (λ G9 M9 _ _ st9=>?_)
  have st12:=st9.gs (Gs':=[oneB none,oneB none,oneB none,oneB none,oneB none,G9,oneB none]) rfl
  refine st12.segA 2 [4,5] [(0,5)] (λ _ _ st13=>?_)
  refine wpList_nil (za ?_)
  refine wp_ret (zd ?_)
  exact st13.rs2 (s:=0) 5 rfl rfl rfl rfl iI (bxr h11)
 refine wp_skip (za ?_)
 obtain⟨v14,p14,h15⟩:=bsW h7 Zc
 refine st5.sqA [1,7] [(0,5)] (λ _ _ st16=>?_)
 obtain⟨o17,p17,k17⟩:=bs h15
 refine zo (λ a w=>∃ b17,o17=.inl b17/\(∃ M1 q17_0 q17_1 q17_2 q17_3 q17_4 q17_5 q17_6,Sx (Frm.chg w0 G) 111 M M1 [oneB q17_0,q17_1,q17_2,q17_3,q17_4,q17_5,oneB q17_6] [(1,dt x1),(7,dt v14)] [(0,5,dnm (oMac ps) q17_5 ⟨b17⟩ (.pointer (some ⟨b0,0,none⟩)) [])] a w)) ?_ ?_
 ·
  refine st16.sqA [1,7,27] [(0,5)] (λ _ _ st18=>?_)
  refine st18.cs rfl p17 (λ _ h19=>?_) (λ _ h20=>?_)
  ·
   refine wp_seq (wp_seq (wp_region_list ?_))
   refine st18.segB 2 (sc rfl (oM rfl (zg rfl))<|sc rfl (oM rfl (tp rfl))<|.nil) [1,7,29,30] [(0,5)] (λ _ _ st21=>?_)
   obtain⟨v23,p23,h24⟩:=bs h19
   refine st21.cSF (l:=[.tmp 30]) 5 (st21.bkN (s:=0) rfl iI) rfl rfl kN156 (Eq.trans (st21.st.has 29 _ rfl) (st21.st.has 0 _ rfl).1.symm) (by simp) (.cons (tp rfl) .nil) (hR.impl_machine_load1 p23) [1,7] rfl [] rfl rfl (by decide) (λ G22 M22 _ _ st22=>?_)
   have st25:=st22.gs (Gs':=[oneB none,oneB none,oneB none,oneB none,oneB none,G22,oneB none]) rfl
   refine st25.segA 5 [1,7,9] [(0,5)] (λ _ _ st26=>?_)
   refine wpList_nil (za ?_)
   refine st26.sqA [1,7,9,35] [(0,5)] (λ _ _ st27=>?_)
   refine st27.cs rfl h24 (λ _ h28=>?_) (λ _ h29=>?_)
   ·
    refine st27.sqA [4,5] [(0,5)] (λ _ _ st30=>?_)
    refine wp_ret (zd (zd ?_))
    have h31:=jo h28 k17
    exact st30.rs2 (s:=0) 5 rfl rfl rfl rfl iI (bxr h31)
   refine wp_skip (za ?_)
   obtain⟨v32,p32,h33⟩:=bs h29
   refine st27.sqB (sc rfl (oM rfl (zg rfl))<|sc rfl (oM rfl (tp rfl))<|sc rfl (xQ (l:=[.tmp 37,.tmp 38]) st27.ob.sub rfl kN113 (.cons (lendA (sb:=0) st27.ob 5 (tp rfl) rfl iI) (.cons (jV st27.ob.sub (tp rfl)) .nil)) (xa p32) yb)<|sc rfl (oA rfl (tp rfl))<|.nil) [1,7,10] [(0,5)] (λ _ _ st34=>?_)
   refine st34.sqA [1,7,10,41] [(0,5)] (λ _ _ st35=>?_)
   refine st35.cs rfl h33 (λ _ h36=>?_) (λ _ h37=>?_)
   ·
    refine wp_seq (wp_region_list ?_)
    refine st35.segB 2 (sc rfl (oM rfl (zg rfl))<|sc rfl (oM rfl (tp rfl))<|.nil) [42,43] [(0,5)] (λ _ _ st38=>?_)
    obtain⟨v40,p40,h41⟩:=bs h36
    refine st38.cSF (l:=[.tmp 43]) 5 (st38.bkN (s:=0) rfl iI) rfl rfl kN200 (Eq.trans (st38.st.has 42 _ rfl) (st38.st.has 0 _ rfl).1.symm) (by simp) (.cons (tp rfl) .nil) (YF p40) [] rfl [] rfl rfl (by decide) (λ G39 M39 _ _ st39=>?_)
    have st42:=st39.gs (Gs':=[oneB none,oneB none,oneB none,oneB none,oneB none,G39,oneB none]) rfl
    refine st42.segA 2 [4,5] [(0,5)] (λ _ _ st43=>?_)
    refine wpList_nil (za ?_)
    refine wp_ret (zd ?_)
    have h44:=jo h41 k17
    exact st43.rs2 (s:=0) 5 rfl rfl rfl rfl iI (bxr h44)
   refine wp_skip (za ?_)
   exact⟨_,(Option.some.inj h37).symm,⟨_,_,_,_,_,_,_,_,st35.sel [1,7] rfl [(0,5)] rfl iT⟩⟩
  refine wp_skip (za ?_)
  exact⟨_,(Option.some.inj h20).symm,⟨_,_,_,_,_,_,_,_,st18.sel [1,7] rfl [(0,5)] rfl iT⟩⟩
 rintro a17 w17 ⟨b17,rfl,⟨M17,q17_0,q17_1,q17_2,q17_3,q17_4,q17_5,q17_6,st17⟩⟩
 have h45:=jn k17
 refine wp_seq (wp_region_list ?_)
 refine st17.segB 2 (sc rfl (oM rfl (zg rfl))<|sc rfl (oM rfl (tp rfl))<|.nil) [1,7,45,46] [(0,5)] (λ _ _ st46=>?_)
 obtain⟨v48,p48,h49⟩:=bs h45
 refine st46.cSF (l:=[.tmp 46]) 5 (st46.bkN (s:=0) rfl iI) rfl rfl kN181 (Eq.trans (st46.st.has 45 _ rfl) (st46.st.has 0 _ rfl).1.symm) (by simp) (.cons (tp rfl) .nil) (Yf p48) [1,7] rfl [] rfl rfl (by decide) (λ G47 M47 _ _ st47=>?_)
 have st50:=st47.gs (Gs':=[oneB q17_0,q17_1,q17_2,q17_3,q17_4,G47,oneB q17_6]) rfl
 refine st50.alloc 6 rfl rfl kZ119 W5 (by simp) [1,7,47] rfl [0] rfl rfl (λ b52 M52 _ _ st52=>?_)
 have st53:=st52.gs (Gs':=[oneB q17_0,q17_1,q17_2,q17_3,q17_4,G47,oneB (some b52)]) rfl
 refine st53.store (sb:=11) 6 FldS.id rfl rfl rfl ju rfl rfl (tp rfl) rfl [1,7] rfl [0] rfl rfl (λ M55 _ st55=>?_)
 have st56:=st55.frzX 6 (s:=11) rfl rfl [1,7] rfl [0] rfl
 have st57:=st56.gs (Gs':=[oneB q17_0,q17_1,q17_2,q17_3,q17_4,G47,oneB none]) rfl
 refine wpList_nil (za (wp_seq ?_))
 refine st57.sqA [1,7,11,50] [(0,5)] (λ _ _ st58=>?_)
 refine st58.cs rfl h49 (λ _ h59=>?_) (λ _ h60=>?_)
 ·
  refine st58.sqA [4,5] [(0,5)] (λ _ _ st61=>?_)
  refine wp_ret (zd ?_)
  exact st61.rs2 (s:=0) 5 rfl rfl rfl rfl iI (bxr h59)
 refine wp_skip (za (wp_seq ?_))
 have st62:=st58.rst 0 (by simp) [1,7,11,50] rfl [0] rfl
 obtain⟨v63,p63,h64⟩:=bs h60
 refine st62.drn (D:=[_,_,_,_,_,_,_,_]) zK 8 [[],[],[1],[],[],[4],[3,4,5],[],[0,1,2,3,4,5,6,7],[0,1,2,3,4,5,6,7,8],[0,1,2,3,4,5,6,7,8,9]] [[(1,none)],[(11,none)],[(52,some 1)],[],[(11,none)],[(55,some 4)],[(54,some 3),(56,some 5)],[],[(51,some 0),(53,some 2),(57,some 6),(58,some 7)],[(59,some 8)],[(60,some 9)]] (by decide +kernel) (by decide) (
  rc rfl rfl (oM rfl (tp rfl))<|rc rfl rfl (zh Spec.fld0 rfl kF119_0 (tp rfl))<|rc rfl rfl (ze rfl kT3 (tp rfl))<|rc rfl rfl (Zu (α:=Int) (e:=3) rfl kS25)<|rc rfl rfl (zh Spec.fld2 rfl kF119_2 (tp rfl))<|rc rfl rfl (ze rfl kT25 (tp rfl))<|rc rfl rfl (op_app0 rfl kE25 (tp rfl) (tp rfl) p63)<|rc rfl rfl (Zu (α:=GAttr) (e:=133) rfl kS57)<|.nil) [1,7,11,51,53,57] rfl [(0,5),(58,0)] rfl ⟨iI,⟨iE,trivial⟩⟩ (λ _ _ st65=>?_)
 have st67:=st65.tipW (s:=58) 0 rfl rfl iE [0] rfl
 refine st67.bldW (ow:=(owGModR oAtt)) (parts:=[(0,.tmp 51),(1,.tmp 53),(2,.tmp 57),(3,.const (.bool true)),(5,.tmp 58)]) (ns:=[1,1,1,1,1,1]) (zs:=zpGMod) (x:=(⟨x1,v48.2.kind,v63,true,false,[]⟩:GMod)) 1 [0] rfl rfl rfl kB111 kC111 (by
 intro p hp;simp only[List.mem_cons,List.not_mem_nil,or_false] at hp
 rcases hp with rfl | rfl | rfl | rfl | rfl
 ·
  exact⟨by decide,Rep.len (α:=Str) (OpdR.cells (tp rfl) (λ s y hs=>st67.st.has s y hs))⟩
 ·
  exact⟨by decide,Rep.len (α:=Int) (OpdR.cells (tp rfl) (λ s y hs=>st67.st.has s y hs))⟩
 ·
  exact⟨by decide,Rep.len (α:=List Int) (OpdR.cells (tp rfl) (λ s y hs=>st67.st.has s y hs))⟩
 ·
  exact⟨by decide,rfl⟩
 ·
  exact⟨by decide,Ow.len _ (jl (st67.st.has 58 _ rfl))⟩) (((owGModR oAtt)).more (owGModR.mk (x:=(⟨x1,v48.2.kind,v63,true,false,[]⟩:GMod)) (OpdR.cells (tp rfl) (λ s y hs=>st67.st.has s y hs)) (OpdR.cells (tp rfl) (λ s y hs=>st67.st.has s y hs)) (OpdR.cells (tp rfl) (λ s y hs=>st67.st.has s y hs)) (OpdR.cells cB (λ s y hs=>st67.st.has s y hs)) ⟨rfl,trivial⟩ (jl (st67.st.has 58 _ rfl))) (λ b=>(λ hb=>⟨0,by simp,hb⟩))) (by simp) [1,7,11] rfl [0] rfl rfl rfl (λ G66 _ _ st66=>?_)
 have st68:=st66.gs (Gs':=[oneB none,G66,q17_2,q17_3,q17_4,G47,oneB none]) rfl
 refine st68.boxW 4 1 rfl rfl rfl (by simp) (by simp) (by decide) iI [1,7,11] rfl [0] rfl rfl rfl (λ b69 G69 M69 _ _ st69=>?_)
 have st70:=st69.gs (Gs':=[oneB none,oneB none,q17_2,q17_3,G69,G47,oneB none]) rfl
 refine st70.segA 1 [1,7,11] [(0,5),(12,4)] (λ _ _ st71=>?_)
 refine wpList_nil (za ?_)
 refine st71.hdF (s:=0) 5 true (λ _=>((PV.root.box rfl).fld owMachine.f4)) rfl rfl iI [12] rfl (λ g72 A72 _ hA72 st72=>?_)
 refine st72.sqB (sc rfl (oM rfl (zg rfl))<|sc rfl (xNc rfl (tp rfl))<|sc rfl (xFa rfl qk (tp rfl))<|sc rfl (xLc (sb:=0) (.head _) rfl rfl rfl YD (tp rfl) rfl)<|sc rfl (xLe rfl kL106 (tp rfl))<|sc rfl (oA rfl (tp rfl))<|.nil) [1,7,11,13] [(0,5),(12,4)] (λ _ _ st73=>?_)
 have st74:=st73.ncf (s:=0) 5 rfl rfl iI [12] rfl
 refine wp_seq (wp_region_list ?_)
 refine st74.hdF (s:=0) 5 true (λ _=>((PV.root.box rfl).fld owMachine.f4)) rfl rfl iI [12] rfl (λ g75 A75 _ hA75 st75=>?_)
 refine st75.segB 6 (sc rfl (oM rfl (zg rfl))<|sc rfl (oM rfl (zg rfl))<|sc rfl (xNc rfl (tp rfl))<|sc rfl (xFa rfl qk (tp rfl))<|sc rfl (xLc (sb:=0) (.head _) rfl rfl rfl YD (tp rfl) rfl)<|sc rfl (oM rfl (tp rfl))<|.nil) [1,7,11,13,66,70] [(0,5),(12,4),(71,4)] (λ _ _ st76=>?_)
 have st78:=st76.addL (s:=12) (y:=dis (.pointer (some ⟨b69,0,none⟩))) (st76.st.has 12 _ rfl).1 rfl
 have st79:=st78.tuck (s:=71) 182 4 rfl iI rfl (by decide) [0] rfl
 refine st79.litW (oe:=(Ow.pin (owGModR oAtt))) (opds:=[.tmp 71]) (xs:=[⟨b69,(⟨x1,v48.2.kind,v63,true,false,[]⟩:GMod)⟩]) 2 [4] rfl rfl kI106 kY106 rfl rfl (by decide) rfl (by decide) (Wb (pin_cells (st79.st.has 71 _ rfl) (st79.st.has 182 _ rfl)) (λ b hb=>⟨4,by simp,hb⟩)) (λ q hq=>by
 simp only[List.mem_cons,List.not_mem_nil,or_false] at hq
 subst hq
 exact Ow.len _ (pin_cells (st79.st.has 71 _ rfl) (st79.st.has 182 _ rfl))) (by simp) [1,7,11,12,13,66,70,71] rfl [0] rfl rfl rfl (by decide) (λ G77 M77 _ _ st77=>?_)
 have st80:=st77.gs (Gs':=[oneB none,oneB none,G77,q17_3,oneB none,G47,oneB none]) rfl
 have st82:=st80.asO (s:=0) 5 rfl rfl iI (xj (owMachine.imp4 (imp_lax (b:=b69)))) [72] rfl
 refine st82.mvG (s:=70) (sb:=0) 5 3 ((PV.root.box rfl).fld owMachine.f4) (.head _) rfl (yo rfl rfl) rfl (by simp) (by simp) (by decide) rfl iI [1,7,11,12,13,66,71] rfl [72] rfl rfl rfl rfl (λ G83 H83 st83=>?_)
 obtain⟨v84,p84,h85⟩:=bs h64
 refine st83.appP 3 2 rfl rfl kE106 rfl rfl rfl (by simp) (by simp) (by decide) iI iI p84 [1,7,11,12,13,66,71] rfl [0] rfl rfl rfl (λ G81 M81 _ _ hn81 st81=>?_)
 have st86:=st81.gs (Gs':=[oneB none,oneB none,oneB none,G81,oneB none,G83,oneB none]) rfl
 refine st86.segB 2 (sc rfl (xNc rfl (tp rfl))<|sc rfl (xFa rfl qk (tp rfl))<|.nil) [1,7,11,12,13,75] [(0,5),(73,3)] (λ _ _ st87=>?_)
 refine st87.stH (sb:=0) (tv:=73) 5 3 rfl rfl rfl YD (by simp) (by simp) (by decide) (tp rfl) rfl rfl iI iI [1,7,11,12,13] rfl [] rfl rfl rfl (λ G88 _ st88=>?_)
 have st89:=st88.asO (s:=0) 5 rfl rfl iI (xj (owMachine.imp4 (imp_strict hn81))) [] rfl
 have st90:=st89.gs (Gs':=[oneB none,oneB none,oneB none,oneB none,oneB none,G88,oneB none]) rfl
 refine wpList_nil (za (wp_seq (wp_seq (wp_region_list ?_))))
 refine st90.segB 3 (sc rfl (oM rfl (zg rfl))<|sc rfl (oM rfl (tp rfl))<|sc rfl (ze rfl ju (tp rfl))<|.nil) [1,7,12,13,76,77,78] [(0,5)] (λ _ _ st91=>?_)
 obtain⟨v93,p93,h94⟩:=bs h85
 refine st91.cSF (l:=[.tmp 77,.tmp 78]) 5 (st91.bkN (s:=0) rfl iI) rfl rfl kN182 (Eq.trans (st91.st.has 76 _ rfl) (st91.st.has 0 _ rfl).1.symm) (by simp) (.cons (tp rfl) (.cons (tp rfl) .nil)) (hR.impl_machine_body p93) [1,7,12,13] rfl [] rfl rfl (by decide) (λ G92 M92 _ _ st92=>?_)
 have st95:=st92.gs (Gs':=[oneB none,oneB none,oneB none,oneB none,oneB none,G92,oneB none]) rfl
 refine st95.segA 1 [1,7,12,13,14] [(0,5)] (λ _ _ st96=>?_)
 refine wpList_nil (za ?_)
 refine st96.sqA [1,7,12,13,14,81] [(0,5)] (λ _ _ st97=>?_)
 refine st97.cs rfl h94 (λ _ h98=>?_) (λ _ h99=>?_)
 ·
  refine wp_seq (wp_region_list ?_)
  obtain⟨v100,p100,h101⟩:=bs h98
  refine st97.segB 3 (sc rfl (oM rfl (tp rfl))<|sc rfl (xNc rfl (tp rfl))<|sc rfl (xFa rfl JA (tp rfl))<|.nil) [14,84] [(0,5)] (λ _ _ st102=>?_)
  refine st102.stF (sb:=0) 5 ((((PV.root.box rfl).fld owMachine.f4).rowP (.head _) p100).fld owGModR.f3) rfl rfl rfl kT4 (by simp) (tp rfl) cB rfl rfl iI [14] rfl [] rfl rfl (λ _ st103=>?_)
  refine wpList_nil (za ?_)
  refine st103.sqA [4,5] [(0,5)] (λ _ _ st104=>?_)
  refine wp_ret (zd ?_)
  have st105:=st104.asO (s:=0) 5 rfl rfl iI (xj (owMachine.imp4 (yR (λ _ h=>(.tail _ h))))) [] rfl
  exact st105.rs2 (s:=0) 5 rfl rfl rfl rfl iI (bxr h101)
 refine wp_skip (za (wp_seq (wp_region_list ?_)))
 obtain⟨v106,p106,h107⟩:=bs h99
 refine st97.segB 3 (sc rfl (oM rfl (tp rfl))<|sc rfl (xNc rfl (tp rfl))<|sc rfl (xFa rfl kF111_4 (tp rfl))<|.nil) [1,7,13,88] [(0,5)] (λ _ _ st108=>?_)
 refine st108.stF (sb:=0) 5 ((((PV.root.box rfl).fld owMachine.f4).rowP (.head _) p106).fld owGModR.f4) rfl rfl rfl kT4 (by simp) (tp rfl) cB rfl rfl iI [1,7,13] rfl [] rfl rfl (λ _ st109=>?_)
 refine wpList_nil (za ?_)
 obtain⟨o110,p110,k110⟩:=bs h107
 refine zo (λ a w=>∃ M1 q110_0 q110_1 q110_2 q110_3 q110_4 q110_5 q110_6,Sx (Frm.chg w0 G) 111 M M1 [oneB q110_0,q110_1,q110_2,q110_3,q110_4,q110_5,oneB q110_6] [(13,dt (v48.1.modules.length:Int))] [(0,5,dnm (oMac ((v48.1.modules.length,b69)::ps)) q110_5 ⟨o110⟩ (.pointer (some ⟨b0,0,none⟩)) [])] a w) ?_ ?_
 ·
  obtain⟨v111,p111,h112⟩:=bs p110
  refine st109.sqB (sc rfl (oM rfl (zg rfl))<|sc rfl (oM rfl (tp rfl))<|sc rfl (xQ (l:=[.tmp 89,.tmp 90]) st109.ob.sub rfl kN113 (.cons (lendA (sb:=0) st109.ob 5 (tp rfl) rfl iI) (.cons (jV st109.ob.sub (tp rfl)) .nil)) (xa p111) yb)<|sc rfl (oA rfl (tp rfl))<|.nil) [1,7,13,15] [(0,5)] (λ _ _ st113=>?_)
  refine st113.sqB (sc rfl (oM rfl (tp rfl))<|sc rfl (Yb rfl (tp rfl) (zI (by decide)))<|sc rfl (oM rfl (tp rfl))<|sg rfl rfl (λ hg=>oM rfl (tp rfl))<|sg rfl rfl (λ hg=>oCI rfl (zf hg rfl) cI)<|sc rfl (zW rfl (tp rfl) (zb rfl))<|.nil) [1,13,15,97] [(0,5)] (λ _ _ st114=>?_)
  refine st114.cs rfl h112 (λ _ h115=>?_) (λ _ h116=>?_)
  ·
   obtain⟨v118,p118,h121⟩:=bs h115
   obtain⟨v120,p120,h122⟩:=bs h121
   refine st114.hdF (s:=0) 5 true (λ _=>((PV.root.box rfl).fld owMachine.f4)) rfl rfl iI [] rfl (λ g117 A117 _ hA117 st117=>?_)
   refine st117.mintP (s:=0) 5 rfl rfl iI (qr (owMachine.impE4 (qX (zz (yt p118).2)))) [] rfl (λ b119 st119=>?_)
   refine st119.drn (D:=[_,_,_,_,_,_,_,_,_,_,_]) zK 11 [[],[0],[0,1],[0,1,2],[],[0,1,2,3,4],[0,1,2,3,4,5],[],[7],[],[9],[0,1,2,3,4,5,6,7,8,9,10]] [[(0,none)],[(98,some 0)],[(99,some 1)],[(100,some 2),(0,none)],[(15,none)],[(101,some 3),(102,some 4)],[(103,some 5),(0,none)],[(1,none)],[(105,some 7)],[(13,none)],[(107,some 9)],[(104,some 6),(106,some 8),(108,some 10)]] (by decide +kernel) (by decide) (
    rc rfl rfl (oM rfl (zg rfl))<|rc rfl rfl (xNc rfl (tp rfl))<|rc rfl rfl (xFa rfl qk (tp rfl))<|rc rfl rfl (xLc (sb:=0) (.head _) rfl rfl rfl YD (tp rfl) rfl)<|rc rfl rfl (oM rfl (tp rfl))<|rc rfl rfl (xIa (g:=g117) rfl XQ (tp rfl) (tp rfl) rfl (λ h=>hA117 h rfl) p118)<|rc rfl rfl (xLdP (sb:=0) ((PV.root.box rfl).fld owMachine.f4) (.head _) rfl (λ h=>hA117 h rfl) (.head _) (yt p118).2 (Nat.mul_one _) rfl Xn (tp rfl) rfl)<|rc rfl rfl (oM rfl (tp rfl))<|rc rfl rfl (zq (l:=[.tmp 105]) rfl kN202 (.cons (tp rfl) .nil) (WL p120))<|rc rfl rfl (oM rfl (tp rfl))<|rc rfl rfl (zV (parts:=[(0,.const (.int .i64 1)),(1,.tmp 107)]) (ns:=[1,1]) (zs:=Yc) rfl rfl Wd We (λ w a hl=>by
 intro p hp;simp only[List.mem_cons,List.not_mem_nil,or_false] at hp
 rcases hp with rfl | rfl
 ·
  exact⟨by decide,rfl⟩
 ·
  exact⟨by decide,Rep.len (α:=Int) (OpdR.cells (tp rfl) hl)⟩) (λ w a hl=>GVal.parts (x:=(⟨(1:Int),(v48.1.modules.length:Int)⟩:GVal)) (OpdR.cells cI hl) (OpdR.cells (tp rfl) hl)))<|.nil) [13,104,106,108] rfl [(0,5)] rfl iT (λ _ _ st123=>?_)
   obtain⟨v125,p125,h126⟩:=bs h122
   obtain⟨v127,p127,h128⟩:=bs h126
   refine st123.cSF (l:=[.tmp 106,.tmp 108]) 5 (st123.bkP (sb:=0) ((PV.root.box rfl).fld owMachine.f4) (.head _) p125 rfl iI) rfl rfl kN201 (st123.st.has 104 _ rfl) (by simp) (.cons (tp rfl) (.cons (tp rfl) .nil)) (FnS.any (ja p127)) [13] rfl [] rfl rfl (by decide) (λ G124 M124 _ _ st124=>?_)
   have st129:=st124.gs (Gs':=[oneB none,oneB none,oneB none,oneB none,oneB none,G124,oneB none]) rfl
   refine wpList_nil ?_
   have st130:=st129.asO (s:=0) 5 rfl rfl iI (xj (owMachine.imp4 (yR (λ _ h=>(.tail _ h))))) [] rfl
   refine za ?_
   obtain rfl:=Option.some.inj h128
   exact⟨_,_,_,_,_,_,_,_,st130.sel [13] rfl [(0,5)] rfl iT⟩
  refine wp_skip (za ?_)
  obtain rfl:=Option.some.inj h116
  exact⟨_,_,_,_,_,_,_,_,st114.sel [13] rfl [(0,5)] rfl iT⟩
 rintro a110 w110 ⟨M110,q110_0,q110_1,q110_2,q110_3,q110_4,q110_5,q110_6,st110⟩
 have h131:=k110
 refine st110.sqA [4,5] [(0,5)] (λ _ _ st132=>?_)
 refine wp_ret ?_
 have st133:=st132.asO (s:=0) 5 rfl rfl iI (xj (owMachine.imp4 (yR (λ _ h=>(.tail _ h))))) [] rfl
 exact st133.rs2 (s:=0) 5 rfl rfl rfl rfl iI (bxr h131)
def yB(_R:Rec)(x1:Int)(v243:List GAttr)(s248:Machine×Int):Option ((Machine×Int)⊕(Machine⊕(Machine×Int))):=
if(cmpI .lss s248.2 (v243.length:Int))=true then(Option.bind (α:=Machine) ((atI v243 s248.2).bind λ v254=>
(atI v254.name.l (0:Int)).bind λ v262=>
if(cmpB .neq v262 (UInt8.ofNat 122))=true then((s248.1.modules[x1.toNat]?).bind λ v269=>
(ye v269.x v254.name v254.value).bind λ v271=>
some ({ s248.1 with modules:=(s248.1.modules.set x1.toNat ⟨v271⟩) }))
else(some s248.1)) λ o253=>
(i64 (s248.2+(1:Int))).bind λ v275=>
some (.inl (o253,v275)))
else(some (.inr (.inl s248.1)))
def yl(R:Rec)(x0:Machine)(x1:Int)(x2:Stmt):Option (Machine×Int):=
(atI x0.modules x1).bind λ _v3=>
Option.bind (α:=Machine⊕(Machine×Int)) (if(cmpI .eql x2.kind (0:Int))=true then((R.impl_machine_load1 x0 x2.module).bind λ v15=>
if(cmpI .neq v15.2.2 (0:Int))=true then(some (.inr (v15.1,v15.2.2)))
else((qY x2.module (⟨[46]⟩:Str)).bind λ v25=>
(zU v15.1 v25.1).bind λ v28=>
if(cmpI .lss v28 (0:Int))=true then(some (.inr (v15.1,(1:Int))))
else((v15.1.modules[x1.toNat]?).bind λ v39=>
(ye v39.x v25.1 (⟨(1:Int),v28⟩:GVal)).bind λ v41=>
some (.inl ({ v15.1 with modules:=(v15.1.modules.set x1.toNat ⟨v41⟩) })))))
else(if(cmpI .eql x2.kind (1:Int))=true then((x0.modules[x1.toNat]?).bind λ v47=>
(xo v47.x).bind λ v48=>
(wY v48 x2.level x2.module).bind λ v49=>
if(decide (v49=(⟨[]⟩:Str)))=true then(some (.inr (x0,(5:Int))))
else((R.impl_machine_load1 x0 v49).bind λ v62=>
if(cmpI .neq v62.2.2 (0:Int))=true then(some (.inr (v62.1,v62.2.2)))
else(Option.bind (α:=GVal×Bool) ((atI v62.1.modules v62.2.1).bind λ _v83=>
(v62.1.modules[v62.2.1.toNat]?).bind λ v87=>
(xm v87.x x2.name).bind λ v88=>
some (v88.1,v88.2)) λ o72=>
Option.bind (α:=(Machine×GVal)⊕(Machine⊕(Machine×Int))) (if(!o72.2)=true then((wc v49 x2.name).bind λ v171=>
(atI v62.1.modules v62.2.1).bind λ _v175=>
(v62.1.modules[v62.2.1.toNat]?).bind λ v177=>
(gO ((cmpI .eql v177.x.kind (1:Int)||decide (v171=(⟨[]⟩:Str))) == false) (zU v62.1 v171)).bind λ v178=>
(gO (((cmpI .eql v177.x.kind (1:Int)||decide (v171=(⟨[]⟩:Str))) == false)&&(cmpI .lss v178 (0:Int) == true)) (yG v62.1 v171)).bind λ v184=>
if((cmpI .eql v177.x.kind (1:Int)||decide (v171=(⟨[]⟩:Str)))||(cmpI .lss v178 (0:Int)&&cmpI .eql v184.2.kind (0:Int)))=true then(some (.inr (.inr ((if(((cmpI .eql v177.x.kind (1:Int)||decide (v171=(⟨[]⟩:Str))) == false)&&(cmpI .lss v178 (0:Int) == true))=true then v184.1 else v62.1),(2:Int)))))
else((R.impl_machine_load1 (if(((cmpI .eql v177.x.kind (1:Int)||decide (v171=(⟨[]⟩:Str))) == false)&&(cmpI .lss v178 (0:Int) == true))=true then v184.1 else v62.1) v171).bind λ v196=>
if(cmpI .neq v196.2.2 (0:Int))=true then(some (.inr (.inr (v196.1,v196.2.2))))
else(some (.inl (v196.1,(⟨(1:Int),v196.2.1⟩:GVal))))))
else(some (.inl (v62.1,o72.1)))) (Sum.elim (λ b167=>
(b167.1.modules[x1.toNat]?).bind λ v214=>
(ye v214.x x2.name b167.2).bind λ v216=>
some (.inl ({ b167.1 with modules:=(b167.1.modules.set x1.toNat ⟨v216⟩) }))) some))))
else(if(cmpI .eql x2.kind (2:Int))=true then((R.impl_machine_load1 x0 x2.module).bind λ v224=>
if(cmpI .neq v224.2.2 (0:Int))=true then(some (.inr (v224.1,v224.2.2)))
else((atI v224.1.modules v224.2.1).bind λ _v235=>
(v224.1.modules[v224.2.1.toNat]?).bind λ v237=>
(appO 32 [] v237.x.attrs).bind λ v243=>
zX (λ s248=>yB R x1 v243 s248) (v224.1,(0:Int))))
else(if(cmpI .eql x2.kind (3:Int))=true then((x0.modules[x1.toNat]?).bind λ v285=>
(ye v285.x x2.name (⟨(0:Int),x2.value⟩:GVal)).bind λ v287=>
some (.inl ({ x0 with modules:=(x0.modules.set x1.toNat ⟨v287⟩) })))
else(if(cmpI .eql x2.kind (4:Int))=true then((x0.modules[x1.toNat]?).bind λ v293=>
(xm v293.x x2.name).bind λ v294=>
if(!v294.2)=true then(some (.inr (x0,(3:Int))))
else(if(cmpI .eql v294.1.kind (1:Int))=true then((appO 8 x0.out ([(-1:Int)]:List Int)).bind λ v320=>
some (.inl ({ x0 with out:=v320 })))
else((appO 8 x0.out ([v294.1.num]:List Int)).bind λ v336=>
some (.inl ({ x0 with out:=v336 })))))
else(if(cmpI .eql x2.kind (5:Int))=true then(some (.inr (x0,(4:Int))))
else(some (.inl x0)))))))) (Sum.elim (λ b8=>
some (b8,(0:Int))) some)
theorem JD{R:Rec}(hR:R.ok){ps:List (Nat×Nat)}{x0:Machine}{x1:Int}{x2:Stmt}{r:Machine×Int}(h:yl R x0 x1 x2=some r):FnS Tryz.prog 221 (oMac ps) ⟨x0⟩ [dt x1,dt x2] ⟨r.1⟩ (.frz (dt r.2)):=by
 unfold yl at h
 refine fnSB (fn:=Tryz.f221) 1 7 Tryz.func221 rfl (of_decide_eq_true rfl) rfl (λ M G w0 b0 _ st0=>?_)
 refine st0.sqA [1,5] [(0,1)] (λ _ _ st1=>?_)
 obtain⟨v3,p3,h5⟩:=bs h
 refine st1.hdF (s:=0) 1 true (λ _=>((PV.root.box rfl).fld owMachine.f4)) rfl rfl iI [] rfl (λ g2 A2 _ hA2 st2=>?_)
 refine st2.mintP (s:=0) 1 rfl rfl iI (qr (owMachine.impE4 (qX (zz (yt p3).2)))) [] rfl (λ b4 st4=>?_)
 refine st4.sqB (sc rfl (oM rfl (zg rfl))<|sc rfl (xNc rfl (tp rfl))<|sc rfl (xFa rfl qk (tp rfl))<|sc rfl (xLc (sb:=0) (.head _) rfl rfl rfl YD (tp rfl) rfl)<|sc rfl (oM rfl (tp rfl))<|sc rfl (xIa (g:=g2) rfl XQ (tp rfl) (tp rfl) rfl (λ h=>hA2 h rfl) p3)<|sc rfl (xLdP (sb:=0) ((PV.root.box rfl).fld owMachine.f4) (.head _) rfl (λ h=>hA2 h rfl) (.head _) (yt p3).2 (Nat.mul_one _) rfl Xn (tp rfl) rfl)<|sc rfl (oA rfl (tp rfl))<|.nil) [5,7] [(0,1)] (λ _ _ st6=>?_)
 have st7:=st6.ncf (s:=0) 1 rfl rfl iI [] rfl
 obtain⟨o8,p8,k8⟩:=bs h5
 refine zo (λ a w=>∃ b8,o8=.inl b8/\(∃ M1 q8_0 q8_1 q8_2 q8_3 q8_4 q8_5 q8_6,Sx (Frm.chg w0 G) 236 M M1 [oneB q8_0,q8_1,q8_2,q8_3,oneB q8_4,oneB q8_5,oneB q8_6] [] [(0,1,dnm (oMac ((x1.toNat,b4)::ps)) q8_1 ⟨b8⟩ (.pointer (some ⟨b0,0,none⟩)) [])] a w)) ?_ ?_
 ·
  refine st7.sqA [5,7,36] [(0,1)] (λ _ _ st9=>?_)
  refine wp_block ?_
  refine st9.sqA [5,7,36,37] [(0,1)] (λ _ _ st10=>?_)
  refine st10.cs rfl p8 (λ _ h11=>?_) (λ _ h12=>?_)
  ·
   refine wp_seq (wp_seq (wp_region_list ?_))
   refine st10.segB 3 (sc rfl (oM rfl (zg rfl))<|sc rfl (zh Stmt.fld1 rfl Zb (tp rfl))<|sc rfl (ze rfl kT9 (tp rfl))<|.nil) [5,7,40,42] [(0,1)] (λ _ _ st13=>?_)
   obtain⟨v15,p15,h16⟩:=bs h11
   refine st13.cSF (l:=[.tmp 42]) 1 (st13.bkN (s:=0) rfl iI) rfl rfl kN156 (Eq.trans (st13.st.has 40 _ rfl) (st13.st.has 0 _ rfl).1.symm) (by simp) (.cons (tp rfl) .nil) (hR.impl_machine_load1 p15) [5,7] rfl [] rfl rfl (by decide) (λ G14 M14 _ _ st14=>?_)
   have st17:=st14.gs (Gs':=[oneB none,G14,oneB none,oneB none,oneB none,oneB none,oneB none]) rfl
   refine st17.segA 5 [5,7,9] [(0,1)] (λ _ _ st18=>?_)
   refine wpList_nil (za ?_)
   refine st18.sqA [5,7,9,47] [(0,1)] (λ _ _ st19=>?_)
   refine st19.cs rfl h16 (λ _ h20=>?_) (λ _ h21=>?_)
   ·
    refine st19.sqA [6] [(0,1)] (λ _ _ st22=>?_)
    refine wp_ret (zd (zr (zd ?_)))
    have st23:=st22.asO (s:=0) 1 rfl rfl iI (xj (owMachine.imp4 (yR (λ _ h=>(.tail _ h))))) [] rfl
    have h24:=jo h20 k8
    exact st23.rsF (s:=0) 1 rfl rfl rfl iI (bxr h24) yb
   refine wp_skip (za ?_)
   obtain⟨v25,p25,h26⟩:=bsW h21 strings_Cut_w
   refine st19.sqA [7,10] [(0,1)] (λ _ _ st27=>?_)
   obtain⟨v28,p28,h29⟩:=bs h26
   refine st27.sqB (sc rfl (oM rfl (zg rfl))<|sc rfl (oM rfl (tp rfl))<|sc rfl (xQ (l:=[.tmp 56,.tmp 57]) st27.ob.sub rfl kN113 (.cons (lendA (sb:=0) st27.ob 1 (tp rfl) rfl iI) (.cons (jV st27.ob.sub (tp rfl)) .nil)) (xa p28) yb)<|sc rfl (oA rfl (tp rfl))<|.nil) [7,10,13] [(0,1)] (λ _ _ st30=>?_)
   refine wp_seq ?_
   refine st30.sqA [7,10,13,60] [(0,1)] (λ _ _ st31=>?_)
   refine st31.cs rfl h29 (λ _ h32=>?_) (λ _ h33=>?_)
   ·
    refine st31.sqA [6] [(0,1)] (λ _ _ st34=>?_)
    refine wp_ret (zd (zr (zd ?_)))
    have st35:=st34.asO (s:=0) 1 rfl rfl iI (xj (owMachine.imp4 (yR (λ _ h=>(.tail _ h))))) [] rfl
    have h36:=jo h32 k8
    exact st35.rsF (s:=0) 1 rfl rfl rfl iI (bxr h36) yb
   refine wp_skip (za (wp_region_list ?_))
   refine st31.segB 4 (sc rfl (oM rfl (tp rfl))<|sc rfl (oM rfl (tp rfl))<|sc rfl (oM rfl (tp rfl))<|sc rfl (zV (parts:=[(0,.const (.int .i64 1)),(1,.tmp 63)]) (ns:=[1,1]) (zs:=Yc) rfl rfl Wd We (λ w a hl=>by
 intro p hp;simp only[List.mem_cons,List.not_mem_nil,or_false] at hp
 rcases hp with rfl | rfl
 ·
  exact⟨by decide,rfl⟩
 ·
  exact⟨by decide,Rep.len (α:=Int) (OpdR.cells (tp rfl) hl)⟩) (λ w a hl=>GVal.parts (x:=(⟨(1:Int),v28⟩:GVal)) (OpdR.cells cI hl) (OpdR.cells (tp rfl) hl)))<|.nil) [61,62,64] [(0,1)] (λ _ _ st37=>?_)
   obtain⟨v39,p39,h40⟩:=bs h33
   obtain⟨v41,p41,h42⟩:=bs h40
   refine st37.cSF (l:=[.tmp 62,.tmp 64]) 1 (st37.bkP (sb:=0) ((PV.root.box rfl).fld owMachine.f4) (.head _) p39 rfl iI) rfl rfl kN201 (st37.st.has 61 _ rfl) (by simp) (.cons (tp rfl) (.cons (tp rfl) .nil)) (FnS.any (ja p41)) [] rfl [] rfl rfl (by decide) (λ G38 M38 _ _ st38=>?_)
   have st43:=st38.gs (Gs':=[oneB none,G38,oneB none,oneB none,oneB none,oneB none,oneB none]) rfl
   refine wpList_nil (zi (za ?_))
   exact⟨_,(Option.some.inj h42).symm,⟨_,_,_,_,_,_,_,_,st43.sel [] rfl [(0,1)] rfl iT⟩⟩
  refine st10.sqA [5,7,36,66] [(0,1)] (λ _ _ st44=>?_)
  refine st44.cs rfl h12 (λ _ h45=>?_) (λ _ h46=>?_)
  ·
   refine wp_seq ?_
   obtain⟨v47,p47,h50⟩:=bs h45
   obtain⟨v48,p48,h51⟩:=bs h50
   obtain⟨v49,p49,h52⟩:=bs h51
   refine st44.dr (D:=[_,_,_,_,_,_,_,_]) zK [[],[0],[],[2],[],[4],[0,1,2,3,4,5],[0,1,2,3,4,5,6]] [[(7,none)],[(68,some 0),(0,none)],[(5,none)],[(70,some 2)],[(5,none)],[(72,some 4)],[(69,some 1),(71,some 3),(73,some 5)],[(74,some 6)]] (by decide +kernel) (
    rc rfl rfl (oM rfl (tp rfl))<|rc rfl rfl (xQ (l:=[.tmp 68]) st44.ob.sub rfl kN163 (.cons (lendQ (sb:=0) st44.ob 1 (((PV.root.box rfl).fld owMachine.f4).rowP (.head _) p47) (tp rfl) rfl iI) .nil) (Xp p48) ZZ)<|rc rfl rfl (zh Stmt.fld2 rfl kF173_2 (tp rfl))<|rc rfl rfl (ze rfl kT3 (tp rfl))<|rc rfl rfl (zh Stmt.fld1 rfl Zb (tp rfl))<|rc rfl rfl (ze rfl kT9 (tp rfl))<|rc rfl rfl (zq (l:=[.tmp 69,.tmp 71,.tmp 73]) rfl kN162 (.cons (tp rfl) (.cons (tp rfl) (.cons (tp rfl) .nil))) (W9 p49))<|rc rfl rfl (oA rfl (tp rfl))<|.nil) [5,7,14] rfl [(0,1)] rfl iT (λ _ _ st53=>?_)
   refine za (wp_seq ?_)
   refine st53.sqA [5,7,14,76] [(0,1)] (λ _ _ st54=>?_)
   refine st54.cs rfl h52 (λ _ h55=>?_) (λ _ h56=>?_)
   ·
    refine st54.sqA [6] [(0,1)] (λ _ _ st57=>?_)
    refine wp_ret (zd (zr (zd ?_)))
    have st58:=st57.asO (s:=0) 1 rfl rfl iI (xj (owMachine.imp4 (yR (λ _ h=>(.tail _ h))))) [] rfl
    have h59:=jo h55 k8
    exact st58.rsF (s:=0) 1 rfl rfl rfl iI (bxr h59) yb
   refine wp_skip (za (wp_seq (wp_region_list ?_)))
   refine st54.segB 2 (sc rfl (oM rfl (zg rfl))<|sc rfl (oM rfl (tp rfl))<|.nil) [5,7,14,78,79] [(0,1)] (λ _ _ st60=>?_)
   obtain⟨v62,p62,h63⟩:=bs h56
   refine st60.cSF (l:=[.tmp 79]) 1 (st60.bkN (s:=0) rfl iI) rfl rfl kN156 (Eq.trans (st60.st.has 78 _ rfl) (st60.st.has 0 _ rfl).1.symm) (by simp) (.cons (tp rfl) .nil) (hR.impl_machine_load1 p62) [5,7,14] rfl [] rfl rfl (by decide) (λ G61 M61 _ _ st61=>?_)
   have st64:=st61.gs (Gs':=[oneB none,G61,oneB none,oneB none,oneB none,oneB none,oneB none]) rfl
   refine st64.segA 5 [5,7,14,15,16] [(0,1)] (λ _ _ st65=>?_)
   refine wpList_nil (za (wp_seq ?_))
   refine st65.sqA [5,7,14,15,16,84] [(0,1)] (λ _ _ st66=>?_)
   refine st66.cs rfl h63 (λ _ h67=>?_) (λ _ h68=>?_)
   ·
    refine st66.sqA [6] [(0,1)] (λ _ _ st69=>?_)
    refine wp_ret (zd (zr (zd ?_)))
    have st70:=st69.asO (s:=0) 1 rfl rfl iI (xj (owMachine.imp4 (yR (λ _ h=>(.tail _ h))))) [] rfl
    have h71:=jo h67 k8
    exact st70.rsF (s:=0) 1 rfl rfl rfl iI (bxr h71) yb
   refine wp_skip (za ?_)
   obtain⟨o72,p72,k72⟩:=bs h68
   refine zo (λ a w=>∃ M1 q72_0 q72_1 q72_2 q72_3 q72_4 q72_5 q72_6,Sx (Frm.chg w0 G) 236 M M1 [oneB q72_0,q72_1,q72_2,q72_3,oneB q72_4,oneB q72_5,oneB q72_6] [(5,dptr x2),(14,dt v49),(15,dt v62.2.1),(18,dt o72.2),(7,dis (.pointer (some ⟨b4,0,none⟩)))] [(17,4,dbox q72_4 0 o72.1),(0,1,dnm (oMac ((x1.toNat,b4)::ps)) q72_1 ⟨v62.1⟩ (.pointer (some ⟨b0,0,none⟩)) [])] a w) ?_ ?_
   ·
    refine st66.opn (s:=5) rfl (λ b73 o73 c73 st73=>?_)
    refine st73.held (λ w=>CellsAt w b73 o73 c73) zK (λ _ st74=>?_)
    refine st74.tkN (i:=0) (sb:=0) rfl rfl (by decide +kernel) (by decide +kernel) (by decide +kernel) (λ _ _ _ _ h=>h) (st74.pkS (s:=5) rfl) rfl rfl rfl (λ _ st75=>?_)
    refine st75.tk (i:=1) rfl rfl (by decide +kernel) (by decide +kernel) (by decide +kernel) (λ _ _ _ h=>h) (st75.pkS (s:=5) rfl) (yNc rfl (st75.st.has 87 _ rfl)) (λ _ st76=>?_)
    refine st76.tk (i:=2) rfl rfl (by decide +kernel) (by decide +kernel) (by decide +kernel) (λ _ _ _ h=>h) (st76.pkS (s:=5) rfl) (yFa rfl qk (st76.st.has 88 _ rfl)) (λ _ st77=>?_)
    refine st77.tkM (i:=4) (sb:=15) rfl rfl (by decide +kernel) (by decide +kernel) (by decide +kernel) (λ _ _ _ _ h=>h) (st77.pkS (s:=5) rfl) rfl rfl rfl rfl (λ _ st78=>?_)
    refine st78.tkA (i:=7) (sb:=5) rfl rfl (by decide +kernel) (by decide +kernel) (by decide +kernel) (λ _ _ _ _ h=>h) rfl rfl jX rfl (λ _ st79=>?_)
    refine st79.tkF (i:=8) (sb:=5) (s2:=94) Stmt.fld3 rfl rfl (by decide +kernel) (by decide +kernel) (by decide +kernel) (λ _ _ _ _ h=>h) rfl rfl rfl kT9 rfl (λ _ st80=>?_)
    obtain⟨v83,p83,h99⟩:=bs p72
    obtain⟨v87,p87,h100⟩:=bs h99
    obtain⟨v88,p88,h101⟩:=bs h100
    refine aH2 (i:=3) (j:=13) (by decide +kernel) rfl rfl ?_ ?_
    ·
     refine st80.hdF (s:=0) 1 true (λ _=>((PV.root.box rfl).fld owMachine.f4)) rfl rfl iI [] rfl (λ g102 A102 _ hA102 st102=>?_)
     refine st102.segB 1 (sc rfl (xLc (sb:=0) (.head _) rfl rfl rfl YD (tp rfl) rfl)<|.nil) [5,7,14,15,90,91,95] [(0,1)] (λ _ _ st103=>?_)
     refine aHN (st103.pkS (s:=5) rfl) ?_
     refine st103.tkI (i:=5) (s2:=90) (g:=g102) rfl rfl (by decide +kernel) (by decide +kernel) (by decide +kernel) (λ _ _ _ _ h=>h) (st103.pkS (s:=5) rfl) rfl XQ rfl rfl (tp rfl) rfl (λ h=>hA102 h rfl) p83 (λ _ st104=>?_)
     refine aH2 (i:=6) (j:=13) (by decide +kernel) rfl rfl ?_ ?_
     ·
      refine st104.mintP (s:=0) 1 rfl rfl iI (qr (owMachine.impE4 (qX (zz (yt p83).2)))) [] rfl (λ b105 st105=>?_)
      refine st105.segB 1 (sc rfl (xLdP (sb:=0) ((PV.root.box rfl).fld owMachine.f4) (.head _) rfl (λ h=>hA102 h rfl) (.head _) (yt p83).2 (Nat.mul_one _) rfl Xn (tp rfl) rfl)<|.nil) [5,7,14,15,93,95] [(0,1)] (λ _ _ st106=>?_)
      refine aHN (st106.pkS (s:=5) rfl) ?_
      refine aH2 (i:=9) (j:=13) (by decide +kernel) rfl rfl ?_ ?_
      ·
       refine st106.segB 1 (sc rfl (xQ (l:=[.tmp 93,.tmp 95]) st106.ob.sub rfl kN254 (.cons (lendQ (sb:=0) st106.ob 1 (((PV.root.box rfl).fld owMachine.f4).rowP (.head _) p87) (tp rfl) rfl iI) (.cons (jV st106.ob.sub (tp rfl)) .nil)) (wZ p88) (Xm Wc Yo))<|.nil) [5,7,14,15,96] [(0,1)] (λ _ _ st107=>?_)
       refine aHN (st107.pkS (s:=5) rfl) ?_
       refine st107.tkM (i:=10) (sb:=96) rfl rfl (by decide +kernel) (by decide +kernel) (by decide +kernel) (λ _ _ _ _ h=>h) (st107.pkS (s:=5) rfl) rfl rfl rfl rfl (λ _ st108=>?_)
       refine st108.tkE (i:=11) (s2:=86) rfl rfl (by decide +kernel) (by decide +kernel) (by decide +kernel) (λ _ _ _ _ h=>h) (st108.pkS (s:=5) rfl) rfl rfl rfl rfl (λ _ st109=>?_)
       refine st109.tkE (i:=12) (s2:=86) rfl rfl (by decide +kernel) (by decide +kernel) (by decide +kernel) (λ _ _ _ _ h=>h) (st109.pkS (s:=5) rfl) rfl rfl rfl rfl (λ _ st110=>?_)
       refine aH1 (i:=13) (by decide +kernel) rfl ?_
       refine st110.alloc 4 rfl rfl kZ131 XC (by simp) [5,7,14,15,97,98] rfl [0] rfl rfl (λ b112 M112 _ _ st112=>?_)
       have st113:=st112.gs (Gs':=[oneB none,G61,oneB none,oneB none,oneB (some b112),oneB none,oneB none]) rfl
       refine aHN (st113.pkS (s:=5) rfl) ?_
       refine aH1 (i:=14) (by decide +kernel) rfl ?_
       refine st113.store (sb:=17) 4 FldS.id rfl rfl rfl wX rfl rfl (tp rfl) rfl [5,7,14,15,98] rfl [0] rfl rfl (λ M115 _ st115=>?_)
       refine aHN (st115.pkS (s:=5) rfl) ?_
       refine aH1 (i:=15) (by decide +kernel) rfl ?_
       refine st115.segA 1 [5,7,14,15,18] [(0,1),(17,4)] (λ _ _ st116=>?_)
       refine aHN (st116.pkS (s:=5) rfl) ?_
       refine aH0 (by decide +kernel) ?_
       have st117:=st116.ncf (s:=0) 1 rfl rfl iI [17] rfl
       have st118:=st117.clo (s:=5) rfl
       have st119:=st118.asO (s:=0) 1 rfl rfl iI (xj (owMachine.imp4 (yR (λ _ h=>(.tail _ h))))) [17] rfl
       refine za ?_
       obtain rfl:=Option.some.inj h101
       exact⟨_,_,_,_,_,_,_,_,st119.sel [5,14,15,18,7] rfl [(17,4),(0,1)] rfl ⟨iI,iT⟩⟩
      ·
       refine st106.alloc 4 rfl rfl kZ131 XC (by simp) [5,7,14,15,93,95] rfl [0] rfl rfl (λ b121 M121 _ _ st121=>?_)
       have st122:=st121.gs (Gs':=[oneB none,G61,oneB none,oneB none,oneB (some b121),oneB none,oneB none]) rfl
       refine aHN (st122.pkS (s:=5) rfl) ?_
       refine aH1 (i:=9) (by decide +kernel) rfl ?_
       refine st122.segB 1 (sc rfl (xQ (l:=[.tmp 93,.tmp 95]) st122.ob.sub rfl kN254 (.cons (lendQ (sb:=0) st122.ob 1 (((PV.root.box rfl).fld owMachine.f4).rowP (.head _) p87) (tp rfl) rfl iI) (.cons (jV st122.ob.sub (tp rfl)) .nil)) (wZ p88) (Xm Wc Yo))<|.nil) [5,7,14,15,96] [(0,1),(17,4)] (λ _ _ st123=>?_)
       refine aHN (st123.pkS (s:=5) rfl) ?_
       refine st123.tkM (i:=10) (sb:=96) rfl rfl (by decide +kernel) (by decide +kernel) (by decide +kernel) (λ _ _ _ _ h=>h) (st123.pkS (s:=5) rfl) rfl rfl rfl rfl (λ _ st124=>?_)
       refine st124.tkE (i:=11) (s2:=86) rfl rfl (by decide +kernel) (by decide +kernel) (by decide +kernel) (λ _ _ _ _ h=>h) (st124.pkS (s:=5) rfl) rfl rfl rfl rfl (λ _ st125=>?_)
       refine st125.tkE (i:=12) (s2:=86) rfl rfl (by decide +kernel) (by decide +kernel) (by decide +kernel) (λ _ _ _ _ h=>h) (st125.pkS (s:=5) rfl) rfl rfl rfl rfl (λ _ st126=>?_)
       refine aH1 (i:=14) (by decide +kernel) rfl ?_
       refine st126.store (sb:=17) 4 FldS.id rfl rfl rfl wX rfl rfl (tp rfl) rfl [5,7,14,15,98] rfl [0] rfl rfl (λ M128 _ st128=>?_)
       refine aHN (st128.pkS (s:=5) rfl) ?_
       refine aH1 (i:=15) (by decide +kernel) rfl ?_
       refine st128.segA 1 [5,7,14,15,18] [(0,1),(17,4)] (λ _ _ st129=>?_)
       refine aHN (st129.pkS (s:=5) rfl) ?_
       refine aH0 (by decide +kernel) ?_
       have st130:=st129.ncf (s:=0) 1 rfl rfl iI [17] rfl
       have st131:=st130.clo (s:=5) rfl
       have st132:=st131.asO (s:=0) 1 rfl rfl iI (xj (owMachine.imp4 (yR (λ _ h=>(.tail _ h))))) [17] rfl
       refine za ?_
       obtain rfl:=Option.some.inj h101
       exact⟨_,_,_,_,_,_,_,_,st132.sel [5,14,15,18,7] rfl [(17,4),(0,1)] rfl ⟨iI,iT⟩⟩
     ·
      refine st104.alloc 4 rfl rfl kZ131 XC (by simp) [5,7,14,15,92,95] rfl [0] rfl rfl (λ b134 M134 _ _ st134=>?_)
      have st135:=st134.gs (Gs':=[oneB none,G61,oneB none,oneB none,oneB (some b134),oneB none,oneB none]) rfl
      refine aHN (st135.pkS (s:=5) rfl) ?_
      refine aH1 (i:=6) (by decide +kernel) rfl ?_
      refine st135.mintP (s:=0) 1 rfl rfl iI (qr (owMachine.impE4 (qX (zz (yt p83).2)))) [17] rfl (λ b136 st136=>?_)
      refine st136.segB 1 (sc rfl (xLdP (sb:=0) ((PV.root.box rfl).fld owMachine.f4) (.head _) rfl (λ h=>hA102 h rfl) (.head _) (yt p83).2 (Nat.mul_one _) rfl Xn (tp rfl) rfl)<|.nil) [5,7,14,15,93,95] [(0,1),(17,4)] (λ _ _ st137=>?_)
      refine aHN (st137.pkS (s:=5) rfl) ?_
      refine aH1 (i:=9) (by decide +kernel) rfl ?_
      refine st137.segB 1 (sc rfl (xQ (l:=[.tmp 93,.tmp 95]) st137.ob.sub rfl kN254 (.cons (lendQ (sb:=0) st137.ob 1 (((PV.root.box rfl).fld owMachine.f4).rowP (.head _) p87) (tp rfl) rfl iI) (.cons (jV st137.ob.sub (tp rfl)) .nil)) (wZ p88) (Xm Wc Yo))<|.nil) [5,7,14,15,96] [(0,1),(17,4)] (λ _ _ st138=>?_)
      refine aHN (st138.pkS (s:=5) rfl) ?_
      refine st138.tkM (i:=10) (sb:=96) rfl rfl (by decide +kernel) (by decide +kernel) (by decide +kernel) (λ _ _ _ _ h=>h) (st138.pkS (s:=5) rfl) rfl rfl rfl rfl (λ _ st139=>?_)
      refine st139.tkE (i:=11) (s2:=86) rfl rfl (by decide +kernel) (by decide +kernel) (by decide +kernel) (λ _ _ _ _ h=>h) (st139.pkS (s:=5) rfl) rfl rfl rfl rfl (λ _ st140=>?_)
      refine st140.tkE (i:=12) (s2:=86) rfl rfl (by decide +kernel) (by decide +kernel) (by decide +kernel) (λ _ _ _ _ h=>h) (st140.pkS (s:=5) rfl) rfl rfl rfl rfl (λ _ st141=>?_)
      refine aH1 (i:=14) (by decide +kernel) rfl ?_
      refine st141.store (sb:=17) 4 FldS.id rfl rfl rfl wX rfl rfl (tp rfl) rfl [5,7,14,15,98] rfl [0] rfl rfl (λ M143 _ st143=>?_)
      refine aHN (st143.pkS (s:=5) rfl) ?_
      refine aH1 (i:=15) (by decide +kernel) rfl ?_
      refine st143.segA 1 [5,7,14,15,18] [(0,1),(17,4)] (λ _ _ st144=>?_)
      refine aHN (st144.pkS (s:=5) rfl) ?_
      refine aH0 (by decide +kernel) ?_
      have st145:=st144.ncf (s:=0) 1 rfl rfl iI [17] rfl
      have st146:=st145.clo (s:=5) rfl
      have st147:=st146.asO (s:=0) 1 rfl rfl iI (xj (owMachine.imp4 (yR (λ _ h=>(.tail _ h))))) [17] rfl
      refine za ?_
      obtain rfl:=Option.some.inj h101
      exact⟨_,_,_,_,_,_,_,_,st147.sel [5,14,15,18,7] rfl [(17,4),(0,1)] rfl ⟨iI,iT⟩⟩
    ·
     refine st80.alloc 4 rfl rfl kZ131 XC (by simp) [5,7,14,15,89,91,95] rfl [0] rfl rfl (λ b149 M149 _ _ st149=>?_)
     have st150:=st149.gs (Gs':=[oneB none,G61,oneB none,oneB none,oneB (some b149),oneB none,oneB none]) rfl
     refine aHN (st150.pkS (s:=5) rfl) ?_
     refine aH1 (i:=3) (by decide +kernel) rfl ?_
     refine st150.hdF (s:=0) 1 true (λ _=>((PV.root.box rfl).fld owMachine.f4)) rfl rfl iI [17] rfl (λ g151 A151 _ hA151 st151=>?_)
     refine st151.segB 1 (sc rfl (xLc (sb:=0) (.head _) rfl rfl rfl YD (tp rfl) rfl)<|.nil) [5,7,14,15,90,91,95] [(0,1),(17,4)] (λ _ _ st152=>?_)
     refine aHN (st152.pkS (s:=5) rfl) ?_
     refine st152.tkI (i:=5) (s2:=90) (g:=g151) rfl rfl (by decide +kernel) (by decide +kernel) (by decide +kernel) (λ _ _ _ _ h=>h) (st152.pkS (s:=5) rfl) rfl XQ rfl rfl (tp rfl) rfl (λ h=>hA151 h rfl) p83 (λ _ st153=>?_)
     refine aH1 (i:=6) (by decide +kernel) rfl ?_
     refine st153.mintP (s:=0) 1 rfl rfl iI (qr (owMachine.impE4 (qX (zz (yt p83).2)))) [17] rfl (λ b154 st154=>?_)
     refine st154.segB 1 (sc rfl (xLdP (sb:=0) ((PV.root.box rfl).fld owMachine.f4) (.head _) rfl (λ h=>hA151 h rfl) (.head _) (yt p83).2 (Nat.mul_one _) rfl Xn (tp rfl) rfl)<|.nil) [5,7,14,15,93,95] [(0,1),(17,4)] (λ _ _ st155=>?_)
     refine aHN (st155.pkS (s:=5) rfl) ?_
     refine aH1 (i:=9) (by decide +kernel) rfl ?_
     refine st155.segB 1 (sc rfl (xQ (l:=[.tmp 93,.tmp 95]) st155.ob.sub rfl kN254 (.cons (lendQ (sb:=0) st155.ob 1 (((PV.root.box rfl).fld owMachine.f4).rowP (.head _) p87) (tp rfl) rfl iI) (.cons (jV st155.ob.sub (tp rfl)) .nil)) (wZ p88) (Xm Wc Yo))<|.nil) [5,7,14,15,96] [(0,1),(17,4)] (λ _ _ st156=>?_)
     refine aHN (st156.pkS (s:=5) rfl) ?_
     refine st156.tkM (i:=10) (sb:=96) rfl rfl (by decide +kernel) (by decide +kernel) (by decide +kernel) (λ _ _ _ _ h=>h) (st156.pkS (s:=5) rfl) rfl rfl rfl rfl (λ _ st157=>?_)
     refine st157.tkE (i:=11) (s2:=86) rfl rfl (by decide +kernel) (by decide +kernel) (by decide +kernel) (λ _ _ _ _ h=>h) (st157.pkS (s:=5) rfl) rfl rfl rfl rfl (λ _ st158=>?_)
     refine st158.tkE (i:=12) (s2:=86) rfl rfl (by decide +kernel) (by decide +kernel) (by decide +kernel) (λ _ _ _ _ h=>h) (st158.pkS (s:=5) rfl) rfl rfl rfl rfl (λ _ st159=>?_)
     refine aH1 (i:=14) (by decide +kernel) rfl ?_
     refine st159.store (sb:=17) 4 FldS.id rfl rfl rfl wX rfl rfl (tp rfl) rfl [5,7,14,15,98] rfl [0] rfl rfl (λ M161 _ st161=>?_)
     refine aHN (st161.pkS (s:=5) rfl) ?_
     refine aH1 (i:=15) (by decide +kernel) rfl ?_
     refine st161.segA 1 [5,7,14,15,18] [(0,1),(17,4)] (λ _ _ st162=>?_)
     refine aHN (st162.pkS (s:=5) rfl) ?_
     refine aH0 (by decide +kernel) ?_
     have st163:=st162.ncf (s:=0) 1 rfl rfl iI [17] rfl
     have st164:=st163.clo (s:=5) rfl
     have st165:=st164.asO (s:=0) 1 rfl rfl iI (xj (owMachine.imp4 (yR (λ _ h=>(.tail _ h))))) [17] rfl
     refine za ?_
     obtain rfl:=Option.some.inj h101
     exact⟨_,_,_,_,_,_,_,_,st165.sel [5,14,15,18,7] rfl [(17,4),(0,1)] rfl ⟨iI,iT⟩⟩
   rintro a72 w72 ⟨M72,q72_0,q72_1,q72_2,q72_3,q72_4,q72_5,q72_6,st72⟩
   have h166:=k72
   obtain⟨o167,p167,k167⟩:=bs h166
   refine zo (λ a w=>∃ b167,o167=.inl b167/\(∃ M1 q167_0 q167_1 q167_2 q167_3 q167_4 q167_5 q167_6,Sx (Frm.chg w0 G) 236 M M1 [oneB q167_0,q167_1,q167_2,q167_3,oneB q167_4,oneB q167_5,oneB q167_6] [(5,dptr x2),(7,dis (.pointer (some ⟨b4,0,none⟩)))] [(17,4,dbox q167_4 0 b167.2),(0,1,dnm (oMac ((x1.toNat,b4)::ps)) q167_1 ⟨b167.1⟩ (.pointer (some ⟨b0,0,none⟩)) [])] a w)) ?_ ?_
   ·
    refine st72.sqA [5,7,14,15,100] [(0,1),(17,4)] (λ _ _ st168=>?_)
    refine st168.cs rfl p167 (λ _ h169=>?_) (λ _ h170=>?_)
    ·
     obtain⟨v171,p171,h172⟩:=bsW h169 Yz
     refine st168.sqA [5,7,15,19] [(0,1),(17,4)] (λ _ _ st173=>?_)
     refine wp_seq (wp_seq (wp_region_list ?_))
     obtain⟨v175,p175,h179⟩:=bs h172
     obtain⟨v177,p177,h180⟩:=bs h179
     obtain⟨v178,p178,h181⟩:=bs h180
     refine st173.hdF (s:=0) 1 true (λ _=>((PV.root.box rfl).fld owMachine.f4)) rfl rfl iI [17] rfl (λ g174 A174 _ hA174 st174=>?_)
     refine st174.mintP (s:=0) 1 rfl rfl iI (qr (owMachine.impE4 (qX (zz (yt p175).2)))) [17] rfl (λ b176 st176=>?_)
     refine st176.segB 23 (sc rfl (oM rfl (zg rfl))<|sc rfl (xNc rfl (tp rfl))<|sc rfl (xFa rfl qk (tp rfl))<|sc rfl (xLc (sb:=0) (.head _) rfl rfl rfl YD (tp rfl) rfl)<|sc rfl (oM rfl (tp rfl))<|sc rfl (xIa (g:=g174) rfl XQ (tp rfl) (tp rfl) rfl (λ h=>hA174 h rfl) p175)<|sc rfl (xLdP (sb:=0) ((PV.root.box rfl).fld owMachine.f4) (.head _) rfl (λ h=>hA174 h rfl) (.head _) (yt p175).2 (Nat.mul_one _) rfl Xn (tp rfl) rfl)<|sc rfl (xNc rfl (tp rfl))<|sc rfl (xFa rfl JB (tp rfl))<|sc rfl (xLf (sb:=0) ((((PV.root.box rfl).fld owMachine.f4).rowP (.head _) p177).fld owGModR.f1) rfl kT3 (tp rfl) rfl)<|sc rfl (oCI rfl (tp rfl) cI)<|sc rfl (oM rfl (tp rfl))<|sg rfl rfl (λ hg=>oM rfl (tp rfl))<|sg rfl rfl (λ hg=>ws rfl (zf hg rfl) (zI (by decide)))<|sc rfl (xv rfl (tp rfl) (zb rfl))<|sc rfl (oM rfl (tp rfl))<|sg rfl rfl (λ hg=>oM rfl (zg rfl))<|sg rfl rfl (λ hg=>oM rfl (tp rfl))<|sg rfl rfl (λ hg=>xQ (l:=[.tmp 121,.tmp 122]) st176.ob.sub rfl kN113 (.cons (lendA (sb:=0) st176.ob 1 (zf hg rfl) rfl iI) (.cons (jV st176.ob.sub (zf hg rfl)) .nil)) (xa (gh hg p178)) yb)<|sg rfl rfl (λ hg=>oCI rfl (zf hg rfl) cI)<|sg rfl rfl (λ hg=>oM rfl (zf hg rfl))<|sgg rfl rfl (λ hg=>oM rfl (zg rfl))<|sgg rfl rfl (λ hg=>oM rfl (tp rfl))<|.nil) [5,7,19,120,125,126,127] [(0,1),(17,4)] (λ _ _ st182=>?_)
     obtain⟨v184,p184,h185⟩:=bs h181
     refine st182.cSFhB (sb:=0) (l:=[.tmp 127]) 1 rfl iI rfl rfl rfl kN181 (λ hg=>(st182.st.has 126 _ rfl).1 hg) (by simp) (λ hg=>(.cons (zf hg rfl) .nil)) (λ hg=>Yf (gh hg p184)) [5,7,19,120,125] rfl [17] rfl rfl (by decide) (λ G183 M183 _ _ st183=>?_)
     have st186:=st183.gs (Gs':=[oneB q72_0,G183,q72_2,q72_3,oneB q72_4,oneB q72_5,oneB q72_6]) rfl
     refine st186.segB 4 (sgg rfl rfl (λ hg=>op_fieldV Spec.fld0 rfl rfl kG119_0 (zf hg rfl))<|sgg rfl rfl (λ hg=>oCI rfl (zf hg rfl) cI)<|sg rfl rfl (λ hg=>zW rfl (zf hg rfl) (XX hg rfl))<|sc rfl (xv rfl (tp rfl) (zb rfl))<|.nil) [5,7,19,132] [(0,1),(17,4)] (λ _ _ st187=>?_)
     refine wpList_nil (za ?_)
     refine st187.cs rfl h185 (λ _ h188=>?_) (λ _ h189=>?_)
     ·
      refine st187.sqA [6] [(0,1)] (λ _ _ st190=>?_)
      refine wp_ret (zd (zd (zr (zd ?_))))
      have st191:=st190.asO (s:=0) 1 rfl rfl iI (xj (owMachine.imp4 (yR (λ _ h=>(.tail _ (.tail _ h)))))) [] rfl
      have h192:=jo h188 k167
      have h193:=jo h192 k8
      exact st191.rsF (s:=0) 1 rfl rfl rfl iI (bxr h193) yb
     refine wp_skip (za (wp_seq (wp_region_list ?_)))
     refine st187.segB 2 (sc rfl (oM rfl (zg rfl))<|sc rfl (oM rfl (tp rfl))<|.nil) [5,7,134,135] [(0,1),(17,4)] (λ _ _ st194=>?_)
     obtain⟨v196,p196,h197⟩:=bs h189
     refine st194.cSF (l:=[.tmp 135]) 1 (st194.bkN (s:=0) rfl iI) rfl rfl kN156 (Eq.trans (st194.st.has 134 _ rfl) (st194.st.has 0 _ rfl).1.symm) (by simp) (.cons (tp rfl) .nil) (hR.impl_machine_load1 p196) [5,7] rfl [17] rfl rfl (by decide) (λ G195 M195 _ _ st195=>?_)
     have st198:=st195.gs (Gs':=[oneB q72_0,G195,q72_2,q72_3,oneB q72_4,oneB q72_5,oneB q72_6]) rfl
     refine st198.segA 5 [5,7,20,21] [(0,1),(17,4)] (λ _ _ st199=>?_)
     refine wpList_nil (za (wp_seq ?_))
     refine st199.sqA [5,7,20,21,140] [(0,1),(17,4)] (λ _ _ st200=>?_)
     refine st200.cs rfl h197 (λ _ h201=>?_) (λ _ h202=>?_)
     ·
      refine st200.sqA [6] [(0,1)] (λ _ _ st203=>?_)
      refine wp_ret (zd (zd (zr (zd ?_))))
      have st204:=st203.asO (s:=0) 1 rfl rfl iI (xj (owMachine.imp4 (yR (λ _ h=>(.tail _ (.tail _ h)))))) [] rfl
      have h205:=jo h201 k167
      have h206:=jo h205 k8
      exact st204.rsF (s:=0) 1 rfl rfl rfl iI (bxr h206) yb
     refine wp_skip (za (wp_region_list ?_))
     refine st200.segB 2 (sc rfl (oM rfl (tp rfl))<|sc rfl (zV (parts:=[(0,.const (.int .i64 1)),(1,.tmp 142)]) (ns:=[1,1]) (zs:=Yc) rfl rfl Wd We (λ w a hl=>by
 intro p hp;simp only[List.mem_cons,List.not_mem_nil,or_false] at hp
 rcases hp with rfl | rfl
 ·
  exact⟨by decide,rfl⟩
 ·
  exact⟨by decide,Rep.len (α:=Int) (OpdR.cells (tp rfl) hl)⟩) (λ w a hl=>GVal.parts (x:=(⟨(1:Int),v196.2.1⟩:GVal)) (OpdR.cells cI hl) (OpdR.cells (tp rfl) hl)))<|.nil) [5,7,143] [(0,1),(17,4)] (λ _ _ st207=>?_)
     refine st207.store (sb:=17) 4 FldS.id rfl rfl rfl wX rfl rfl (tp rfl) rfl [5,7] rfl [0] rfl rfl (λ M209 _ st209=>?_)
     refine wpList_nil ?_
     have st210:=st209.asO (s:=0) 1 rfl rfl iI (xj (owMachine.imp4 (yR (λ _ h=>(.tail _ h))))) [17] rfl
     refine za ?_
     exact⟨_,(Option.some.inj h202).symm,⟨_,_,_,_,_,_,_,_,st210.sel [5,7] rfl [(17,4),(0,1)] rfl ⟨iI,iT⟩⟩⟩
    refine wp_skip (za ?_)
    exact⟨_,(Option.some.inj h170).symm,⟨_,_,_,_,_,_,_,_,st168.sel [5,7] rfl [(17,4),(0,1)] rfl ⟨iI,iT⟩⟩⟩
   rintro a167 w167 ⟨b167,rfl,⟨M167,q167_0,q167_1,q167_2,q167_3,q167_4,q167_5,q167_6,st167⟩⟩
   have h211:=jn k167
   refine wp_region_list ?_
   refine st167.segB 4 (sc rfl (oM rfl (tp rfl))<|sc rfl (zh Stmt.fld3 rfl jX (tp rfl))<|sc rfl (ze rfl kT9 (tp rfl))<|sc rfl (zN rfl wX (tp rfl))<|.nil) [144,146,147] [(0,1)] (λ _ _ st212=>?_)
   obtain⟨v214,p214,h215⟩:=bs h211
   obtain⟨v216,p216,h217⟩:=bs h215
   refine st212.cSF (l:=[.tmp 146,.tmp 147]) 1 (st212.bkP (sb:=0) ((PV.root.box rfl).fld owMachine.f4) (.head _) p214 rfl iI) rfl rfl kN201 (st212.st.has 144 _ rfl) (by simp) (.cons (tp rfl) (.cons (tp rfl) .nil)) (FnS.any (ja p216)) [] rfl [] rfl rfl (by decide) (λ G213 M213 _ _ st213=>?_)
   have st218:=st213.gs (Gs':=[oneB q167_0,G213,q167_2,q167_3,oneB q167_4,oneB q167_5,oneB q167_6]) rfl
   refine wpList_nil (zi (za ?_))
   exact⟨_,(Option.some.inj h217).symm,⟨_,_,_,_,_,_,_,_,st218.sel [] rfl [(0,1)] rfl iT⟩⟩
  refine st44.sqA [5,7,36,149] [(0,1)] (λ _ _ st219=>?_)
  refine st219.cs rfl h46 (λ _ h220=>?_) (λ _ h221=>?_)
  ·
   refine wp_seq (wp_region_list ?_)
   refine st219.segB 3 (sc rfl (oM rfl (zg rfl))<|sc rfl (zh Stmt.fld1 rfl Zb (tp rfl))<|sc rfl (ze rfl kT9 (tp rfl))<|.nil) [7,152,154] [(0,1)] (λ _ _ st222=>?_)
   obtain⟨v224,p224,h225⟩:=bs h220
   refine st222.cSF (l:=[.tmp 154]) 1 (st222.bkN (s:=0) rfl iI) rfl rfl kN156 (Eq.trans (st222.st.has 152 _ rfl) (st222.st.has 0 _ rfl).1.symm) (by simp) (.cons (tp rfl) .nil) (hR.impl_machine_load1 p224) [7] rfl [] rfl rfl (by decide) (λ G223 M223 _ _ st223=>?_)
   have st226:=st223.gs (Gs':=[oneB none,G223,oneB none,oneB none,oneB none,oneB none,oneB none]) rfl
   refine st226.segA 5 [7,22,23] [(0,1)] (λ _ _ st227=>?_)
   refine wpList_nil (za (wp_seq ?_))
   refine st227.sqA [7,22,23,159] [(0,1)] (λ _ _ st228=>?_)
   refine st228.cs rfl h225 (λ _ h229=>?_) (λ _ h230=>?_)
   ·
    refine st228.sqA [6] [(0,1)] (λ _ _ st231=>?_)
    refine wp_ret (zd (zr (zd ?_)))
    have st232:=st231.asO (s:=0) 1 rfl rfl iI (xj (owMachine.imp4 (yR (λ _ h=>(.tail _ h))))) [] rfl
    have h233:=jo h229 k8
    exact st232.rsF (s:=0) 1 rfl rfl rfl iI (bxr h233) yb
   refine wp_skip (za (wp_seq (wp_region_list ?_)))
   obtain⟨v235,p235,h239⟩:=bs h230
   obtain⟨v237,p237,h240⟩:=bs h239
   refine st228.hdF (s:=0) 1 true (λ _=>((PV.root.box rfl).fld owMachine.f4)) rfl rfl iI [] rfl (λ g234 A234 _ hA234 st234=>?_)
   refine st234.mintP (s:=0) 1 rfl rfl iI (qr (owMachine.impE4 (qX (zz (yt p235).2)))) [] rfl (λ b236 st236=>?_)
   refine st236.hdR (s:=0) 1 true (λ _=>((((PV.root.box rfl).fld owMachine.f4).rowP (.head _) p237).fld owGModR.f5)) rfl rfl iI [] rfl (λ g238 A238 _ hA238 st238=>?_)
   refine st238.segB 11 (sc rfl (Zu (α:=GAttr) (e:=133) rfl kS57)<|sc rfl (oM rfl (zg rfl))<|sc rfl (xNc rfl (tp rfl))<|sc rfl (xFa rfl qk (tp rfl))<|sc rfl (xLc (sb:=0) (.tail _ (.head _)) rfl rfl rfl YD (tp rfl) rfl)<|sc rfl (oM rfl (tp rfl))<|sc rfl (xIa (g:=g234) rfl XQ (tp rfl) (tp rfl) rfl (λ h=>hA234 h rfl) p235)<|sc rfl (xLdP (sb:=0) ((PV.root.box rfl).fld owMachine.f4) (.tail _ (.head _)) rfl (λ h=>hA234 h rfl) (.head _) (yt p235).2 (Nat.mul_one _) rfl Xn (tp rfl) rfl)<|sc rfl (xNc rfl (tp rfl))<|sc rfl (xFa rfl jd (tp rfl))<|sc rfl (xLc (sb:=0) (.head _) rfl rfl rfl kT57 (tp rfl) rfl)<|.nil) [7,171] [(0,1),(161,0)] (λ _ _ st241=>?_)
   obtain⟨v243,p243,h244⟩:=bs h240
   refine st241.appH 0 rfl rfl kE57 rfl rfl (st241.rowH (sb:=0) ((((PV.root.box rfl).fld owMachine.f4).rowP (.head _) p237).fld owGModR.f5) (.head _) rfl (yo rfl rfl) rfl rfl) p243 [7] rfl [0] rfl rfl (λ g242 M242 _ _ st242=>?_)
   have st245:=st242.gs (Gs':=[oneB g242,G223,oneB none,oneB none,oneB none,oneB none,oneB none]) rfl
   refine st245.segB 2 (sc rfl (op_lenT rfl kL57 (tp rfl))<|sc rfl (oM rfl cI)<|.nil) [7,173,174] [(0,1),(172,0)] (λ _ _ st246=>?_)
   refine wpList_nil ?_
   have st247:=st246.ncf (s:=0) 1 rfl rfl iI [172] rfl
   refine za (wp_block ?_)
   refine zO h244 (λ s248 a w=>∃ M1 q248_0 q248_1 q248_2 q248_3 q248_4 q248_5 q248_6,Sx (Frm.chg w0 G) 236 M M1 [oneB q248_0,q248_1,q248_2,q248_3,oneB q248_4,oneB q248_5,oneB q248_6] [(173,dt (v243.length:Int)),(174,dt s248.2),(7,dis (.pointer (some ⟨b4,0,none⟩)))] [(172,0,dtip q248_0 133 v243),(0,1,dnm (oMac ((v224.2.1.toNat,b236)::((x1.toNat,b4)::ps))) q248_1 ⟨s248.1⟩ (.pointer (some ⟨b0,0,none⟩)) [])] a w) ⟨_,_,_,_,_,_,_,_,st247.sel [173,174,7] rfl [(172,0),(0,1)] rfl ⟨iI,iT⟩⟩ ?_
   rintro s248 z248 a248 w248 ⟨M248,q248_0,q248_1,q248_2,q248_3,q248_4,q248_5,q248_6,st248⟩ hs248 hx248
   have h249:yB R x1 v243 s248=some z248:=hs248
   unfold yB at h249
   refine st248.sqA [7,173,174,175] [(0,1),(172,0)] (λ _ _ st250=>?_)
   refine wp_seq ?_
   refine st250.cs rfl h249 (λ _ h251=>?_) (λ _ h252=>?_)
   ·
    refine wp_skip (za ?_)
    obtain⟨o253,p253,k253⟩:=bs h251
    refine zo (λ a w=>∃ M1 q253_0 q253_1 q253_2 q253_3 q253_4 q253_5 q253_6,Sx (Frm.chg w0 G) 236 M M1 [oneB q253_0,q253_1,q253_2,q253_3,oneB q253_4,oneB q253_5,oneB q253_6] [(173,dt (v243.length:Int)),(174,dt s248.2),(7,dis (.pointer (some ⟨b4,0,none⟩)))] [(172,0,dtip q253_0 133 v243),(0,1,dnm (oMac ((v224.2.1.toNat,b236)::((x1.toNat,b4)::ps))) q253_1 ⟨o253⟩ (.pointer (some ⟨b0,0,none⟩)) [])] a w) ?_ ?_
    ·
     refine wp_block (wp_seq (wp_region_list ?_))
     obtain⟨v254,p254,h255⟩:=bs p253
     refine st250.segB 2 (sc rfl (xIdxT rfl kS57 (tp rfl) (tp rfl) p254)<|sc rfl (zN rfl kT133 (tp rfl))<|.nil) [7,173,174,177] [(0,1),(172,0)] (λ _ _ st256=>?_)
     refine st256.alloc 5 rfl rfl kZ133 zrGAttr (by simp) [7,173,174,177] rfl [0,172] rfl rfl (λ b258 M258 _ _ st258=>?_)
     have st259:=st258.gs (Gs':=[oneB q248_0,q248_1,q248_2,q248_3,oneB q248_4,oneB (some b258),oneB q248_6]) rfl
     refine st259.store (sb:=25) 5 FldS.id rfl rfl rfl kT133 rfl rfl (tp rfl) rfl [7,173,174] rfl [0,172] rfl rfl (λ M261 _ st261=>?_)
     refine wpList_nil (za ?_)
     obtain⟨v262,p262,h263⟩:=bs h255
     refine st261.sqB (sc rfl (yu GAttr.fld0 rfl Wu (tp rfl))<|sc rfl (zN rfl kT9 (tp rfl))<|sc rfl (xByte rfl kX9 (tp rfl) cI p262)<|sc rfl (oCB rfl (tp rfl) (Ya (by decide)))<|.nil) [7,173,174,181] [(0,1),(25,5),(172,0)] (λ _ _ st264=>?_)
     refine st264.cs rfl h263 (λ _ h265=>?_) (λ _ h266=>?_)
     ·
      refine wp_region_list ?_
      refine st264.segB 5 (sc rfl (oM rfl (tp rfl))<|sc rfl (yu GAttr.fld0 rfl Wu (tp rfl))<|sc rfl (zN rfl kT9 (tp rfl))<|sc rfl (yu GAttr.fld1 rfl XI (tp rfl))<|sc rfl (zN rfl wX (tp rfl))<|.nil) [7,173,174,182,184,186] [(0,1),(172,0)] (λ _ _ st267=>?_)
      obtain⟨v269,p269,h270⟩:=bs h265
      obtain⟨v271,p271,h272⟩:=bs h270
      refine st267.cSF (l:=[.tmp 184,.tmp 186]) 1 (st267.bkP (sb:=0) ((PV.root.box rfl).fld owMachine.f4) (.tail _ (.head _)) p269 rfl iI) rfl rfl kN201 (st267.st.has 182 _ rfl) (by simp) (.cons (tp rfl) (.cons (tp rfl) .nil)) (FnS.any (ja p271)) [7,173,174] rfl [172] rfl rfl (by decide) (λ G268 M268 _ _ st268=>?_)
      have st273:=st268.gs (Gs':=[oneB q248_0,G268,q248_2,q248_3,oneB q248_4,oneB (some b258),oneB q248_6]) rfl
      refine wpList_nil (zi (za ?_))
      obtain rfl:=Option.some.inj h272
      exact⟨_,_,_,_,_,_,_,_,st273.sel [173,174,7] rfl [(172,0),(0,1)] rfl ⟨iI,iT⟩⟩
     refine wp_skip (zi (za ?_))
     obtain rfl:=Option.some.inj h266
     exact⟨_,_,_,_,_,_,_,_,st264.sel [173,174,7] rfl [(172,0),(0,1)] rfl ⟨iI,iT⟩⟩
    rintro a253 w253 ⟨M253,q253_0,q253_1,q253_2,q253_3,q253_4,q253_5,q253_6,st253⟩
    have h274:=k253
    obtain⟨v275,p275,h276⟩:=bs h274
    refine st253.rgA [7,173,174] [(0,1),(172,0)] (λ _ _ st277=>?_)
    refine za ?_
    exact⟨_,(Option.some.inj h276).symm,⟨_,_,_,_,_,_,_,_,st277.sel [173,174,7] rfl [(172,0),(0,1)] rfl ⟨iI,iT⟩⟩⟩
   refine wp_exit (zn (zn (zG ?_)))
   refine zi ?_
   have st278:=st250.asO (s:=0) 1 rfl rfl iI (xj (owMachine.imp4 (yR (λ _ h=>(.tail _ h))))) [172] rfl
   refine za ?_
   have h279:=lo h252 hx248
   exact⟨_,(Option.some.inj h279).symm,⟨_,_,_,_,_,_,_,_,st278.sel [] rfl [(0,1)] rfl iT⟩⟩
  refine st219.sqA [5,7,36,189] [(0,1)] (λ _ _ st280=>?_)
  refine st280.cs rfl h221 (λ _ h281=>?_) (λ _ h282=>?_)
  ·
   refine wp_region_list ?_
   refine st280.segB 6 (sc rfl (oM rfl (tp rfl))<|sc rfl (zh Stmt.fld3 rfl jX (tp rfl))<|sc rfl (ze rfl kT9 (tp rfl))<|sc rfl (zh Stmt.fld4 rfl Ws (tp rfl))<|sc rfl (ze rfl kT3 (tp rfl))<|sc rfl (zV (parts:=[(0,.const (.int .i64 0)),(1,.tmp 195)]) (ns:=[1,1]) (zs:=Yc) rfl rfl Wd We (λ w a hl=>by
 intro p hp;simp only[List.mem_cons,List.not_mem_nil,or_false] at hp
 rcases hp with rfl | rfl
 ·
  exact⟨by decide,rfl⟩
 ·
  exact⟨by decide,Rep.len (α:=Int) (OpdR.cells (tp rfl) hl)⟩) (λ w a hl=>GVal.parts (x:=(⟨(0:Int),x2.value⟩:GVal)) (OpdR.cells cI hl) (OpdR.cells (tp rfl) hl)))<|.nil) [191,193,196] [(0,1)] (λ _ _ st283=>?_)
   obtain⟨v285,p285,h286⟩:=bs h281
   obtain⟨v287,p287,h288⟩:=bs h286
   refine st283.cSF (l:=[.tmp 193,.tmp 196]) 1 (st283.bkP (sb:=0) ((PV.root.box rfl).fld owMachine.f4) (.head _) p285 rfl iI) rfl rfl kN201 (st283.st.has 191 _ rfl) (by simp) (.cons (tp rfl) (.cons (tp rfl) .nil)) (FnS.any (ja p287)) [] rfl [] rfl rfl (by decide) (λ G284 M284 _ _ st284=>?_)
   have st289:=st284.gs (Gs':=[oneB none,G284,oneB none,oneB none,oneB none,oneB none,oneB none]) rfl
   refine wpList_nil (zi (za ?_))
   exact⟨_,(Option.some.inj h288).symm,⟨_,_,_,_,_,_,_,_,st289.sel [] rfl [(0,1)] rfl iT⟩⟩
  refine st280.sqA [5,7,36,198] [(0,1)] (λ _ _ st290=>?_)
  refine st290.cs rfl h282 (λ _ h291=>?_) (λ _ h292=>?_)
  ·
   refine wp_seq (wp_region_list ?_)
   obtain⟨v293,p293,h295⟩:=bs h291
   obtain⟨v294,p294,h296⟩:=bs h295
   refine st290.segB 7 (sc rfl (oM rfl (tp rfl))<|sc rfl (zh Stmt.fld3 rfl jX (tp rfl))<|sc rfl (ze rfl kT9 (tp rfl))<|sc rfl (xQ (l:=[.tmp 201,.tmp 203]) st290.ob.sub rfl kN254 (.cons (lendQ (sb:=0) st290.ob 1 (((PV.root.box rfl).fld owMachine.f4).rowP (.head _) p293) (tp rfl) rfl iI) (.cons (jV st290.ob.sub (tp rfl)) .nil)) (wZ p294) (Xm Wc Yo))<|sc rfl (oM rfl (tp rfl))<|sc rfl (xExt (i:=0) rfl (tp rfl) rfl)<|sc rfl (xExt (i:=1) rfl (tp rfl) rfl)<|.nil) [205,206] [(0,1)] (λ _ _ st297=>?_)
   refine st297.alloc 6 rfl rfl kZ131 XC (by simp) [205,206] rfl [0] rfl rfl (λ b299 M299 _ _ st299=>?_)
   have st300:=st299.gs (Gs':=[oneB none,G,oneB none,oneB none,oneB none,oneB none,oneB (some b299)]) rfl
   refine st300.store (sb:=26) 6 FldS.id rfl rfl rfl wX rfl rfl (tp rfl) rfl [206] rfl [0] rfl rfl (λ M302 _ st302=>?_)
   refine st302.segA 1 [27] [(0,1),(26,6)] (λ _ _ st303=>?_)
   refine wpList_nil (za (wp_block ?_))
   refine st303.sqA [218] [(0,1),(26,6)] (λ _ _ st304=>?_)
   refine st304.cs rfl h296 (λ _ h305=>?_) (λ _ h306=>?_)
   ·
    refine st304.sqA [6] [(0,1)] (λ _ _ st307=>?_)
    refine wp_ret (zr (zr (zd ?_)))
    have st308:=st307.asO (s:=0) 1 rfl rfl iI (xj (owMachine.imp4 (yR (λ _ h=>(.tail _ h))))) [] rfl
    have h309:=jo h305 k8
    exact st308.rsF (s:=0) 1 rfl rfl rfl iI (bxr h309) yb
   refine st304.sqB (sc rfl (yu GVal.fld0 rfl kF131_0 (tp rfl))<|sc rfl (zN rfl kT3 (tp rfl))<|sc rfl (oCI rfl (tp rfl) cI)<|sc rfl (oA rfl (tp rfl))<|.nil) [221] [(0,1),(26,6)] (λ _ _ st310=>?_)
   refine st310.cs rfl h306 (λ _ h311=>?_) (λ _ h312=>?_)
   ·
    refine wp_region_list ?_
    refine st310.hdR (s:=0) 1 true (λ _=>((PV.root.box rfl).fld owMachine.f5)) rfl rfl iI [26] rfl (λ g313 A313 _ hA313 st313=>?_)
    refine st313.segB 6 (sc rfl (oM rfl (zg rfl))<|sc rfl (oM rfl (zg rfl))<|sc rfl (xNc rfl (tp rfl))<|sc rfl (xFa rfl kF108_5 (tp rfl))<|sc rfl (xLc (sb:=0) (.head _) rfl rfl rfl kT25 (tp rfl) rfl)<|sc rfl (yc (opds:=[.const (.int .i64 (-1))]) rfl kS25 kY25 rfl rfl (by decide) (.cons cI .nil))<|.nil) [225,229,230] [(0,1)] (λ _ _ st314=>?_)
    refine st314.mvG (s:=229) (sb:=0) 1 3 ((PV.root.box rfl).fld owMachine.f5) (.head _) rfl (yo rfl rfl) rfl (by simp) (by simp) (by decide) rfl iI [225,230] rfl [] rfl rfl rfl rfl (λ G316 H316 st316=>?_)
    have st317:=st316.gs (Gs':=[oneB none,G316,oneB none,H316,oneB none,oneB none,oneB (some b299)]) rfl
    refine st317.tipR (s:=229) 3 rfl rfl (by simp) iI [0] rfl rfl (λ g318 st318=>?_)
    obtain⟨v320,p320,h321⟩:=bs h311
    refine st318.app 3 rfl rfl kE25 rfl rfl rfl wA p320 [225] rfl [0] rfl rfl (λ g319 M319 _ _ st319=>?_)
    have st322:=st319.gs (Gs':=[oneB none,G316,oneB none,oneB g319,oneB none,oneB none,oneB (some b299)]) rfl
    refine st322.segB 2 (sc rfl (xNc rfl (tp rfl))<|sc rfl (xFa rfl kF108_5 (tp rfl))<|.nil) [233] [(0,1),(231,3)] (λ _ _ st323=>?_)
    have st325:=st323.tipW (s:=231) 3 rfl rfl iI [0] rfl
    refine st325.stH (sb:=0) (tv:=231) 1 3 rfl rfl rfl kT25 (by simp) (by simp) (by decide) (tp rfl) rfl rfl iI iI [] rfl [] rfl rfl rfl (λ G324 _ st324=>?_)
    have st326:=st324.gs (Gs':=[oneB none,G324,oneB none,oneB none,oneB none,oneB none,oneB (some b299)]) rfl
    refine wpList_nil (zi (zi (za ?_)))
    exact⟨_,(Option.some.inj h321).symm,⟨_,_,_,_,_,_,_,_,st326.sel [] rfl [(0,1)] rfl iT⟩⟩
   refine st310.held (λ _=>True) zK (λ _ st327=>?_)
   refine st327.tkN (i:=0) (sb:=0) rfl rfl (by decide +kernel) (by decide +kernel) (by decide +kernel) (λ _ _ _ _ h=>h) trivial rfl rfl rfl (λ _ st328=>?_)
   refine st328.hdR (s:=0) 1 true (λ _=>((PV.root.box rfl).fld owMachine.f5)) rfl rfl iI [26] rfl (λ g329 A329 _ hA329 st329=>?_)
   refine st329.drnE (D:=[_,_,_,_,_,_,_,_]) 8 [0] [[],[0],[0,1],[0,1,2],[0,1,2,3],[0],[0,5],[0,5,6],[0,1,2,3,4,5,6,7],[0,1,2,3,4,5,6,7,8],[0,1,2,3,4,5,6,7,8,9],[0,1,2,3,4,5,6,7,8,9,10]] [[(0,none)],[(0,none)],[(208,some 1)],[(209,some 2)],[(210,some 3),(0,none)],[(26,none)],[(212,some 5)],[(213,some 6)],[(211,some 4),(214,some 7)],[(207,some 0)],[(216,some 9)],[(217,some 10),(215,some 8)]] (by decide +kernel) (by decide) (by decide +kernel) (by decide +kernel) (
    rc rfl rfl (oM rfl (zg rfl))<|rc rfl rfl (oM rfl (zg rfl))<|rc rfl rfl (xNc rfl (tp rfl))<|rc rfl rfl (xFa rfl kF108_5 (tp rfl))<|rc rfl rfl (xLc (sb:=0) (.head _) rfl rfl rfl kT25 (tp rfl) rfl)<|rc rfl rfl (yu GVal.fld1 rfl kF131_1 (tp rfl))<|rc rfl rfl (zN rfl kT3 (tp rfl))<|rc rfl rfl (yc (opds:=[.tmp 213]) rfl kS25 kY25 rfl rfl (by decide) (.cons (tp rfl) .nil))<|.nil) (by
 intro i hi x d hx
 simp only[List.mem_cons,List.not_mem_nil,or_false] at hi
 rcases hi with rfl
 all_goals (injection hx with hx;injection hx with h1 h2;subst h1;subst h2;rfl)) [207,211,214] rfl [(0,1)] rfl iT (λ _ _ st330=>?_)
   refine st330.mvG (s:=211) (sb:=0) 1 2 ((PV.root.box rfl).fld owMachine.f5) (.head _) rfl (yo rfl rfl) rfl (by simp) (by simp) (by decide) rfl iI [207,214] rfl [] rfl rfl rfl rfl (λ G332 H332 st332=>?_)
   have st333:=st332.gs (Gs':=[oneB none,G332,H332,oneB none,oneB none,oneB none,oneB (some b299)]) rfl
   refine st333.tipR (s:=211) 2 rfl rfl (by simp) iI [0] rfl rfl (λ g334 st334=>?_)
   obtain⟨v336,p336,h337⟩:=bs h312
   refine st334.app 2 rfl rfl kE25 rfl rfl rfl wA p336 [207] rfl [0] rfl rfl (λ g335 M335 _ _ st335=>?_)
   have st338:=st335.gs (Gs':=[oneB none,G332,oneB g335,oneB none,oneB none,oneB none,oneB (some b299)]) rfl
   refine st338.segB 2 (sc rfl (xNc rfl (tp rfl))<|sc rfl (xFa rfl kF108_5 (tp rfl))<|.nil) [217] [(0,1),(215,2)] (λ _ _ st339=>?_)
   have st341:=st339.tipW (s:=215) 2 rfl rfl iI [0] rfl
   refine st341.stH (sb:=0) (tv:=215) 1 2 rfl rfl rfl kT25 (by simp) (by simp) (by decide) (tp rfl) rfl rfl iI iI [] rfl [] rfl rfl rfl (λ G340 _ st340=>?_)
   have st342:=st340.gs (Gs':=[oneB none,G340,oneB none,oneB none,oneB none,oneB none,oneB (some b299)]) rfl
   refine wpList_nil (zi (zi (za ?_)))
   exact⟨_,(Option.some.inj h337).symm,⟨_,_,_,_,_,_,_,_,st342.sel [] rfl [(0,1)] rfl iT⟩⟩
  refine st290.sqA [234] [(0,1)] (λ _ _ st343=>?_)
  refine st343.cs rfl h292 (λ _ h344=>?_) (λ _ h345=>?_)
  ·
   refine st343.sqA [6] [(0,1)] (λ _ _ st346=>?_)
   refine wp_ret (zr (zd ?_))
   have st347:=st346.asO (s:=0) 1 rfl rfl iI (xj (owMachine.imp4 (yR (λ _ h=>(.tail _ h))))) [] rfl
   have h348:=jo h344 k8
   exact st347.rsF (s:=0) 1 rfl rfl rfl iI (bxr h348) yb
  refine wp_skip (zi (za ?_))
  exact⟨_,(Option.some.inj h345).symm,⟨_,_,_,_,_,_,_,_,st343.sel [] rfl [(0,1)] rfl iT⟩⟩
 rintro a8 w8 ⟨b8,rfl,⟨M8,q8_0,q8_1,q8_2,q8_3,q8_4,q8_5,q8_6,st8⟩⟩
 have h349:=jn k8
 refine st8.sqA [6] [(0,1)] (λ _ _ st350=>?_)
 refine wp_ret ?_
 have st351:=st350.asO (s:=0) 1 rfl rfl iI (xj (owMachine.imp4 (yR (λ _ h=>(.tail _ h))))) [] rfl
 exact st351.rsF (s:=0) 1 rfl rfl rfl iI (bxr h349) yb
open Go.RowKit
set_option maxRecDepth 10000
set_option maxHeartbeats 1600000
theorem kS67:slB Tryz.prog 67 6=true:=by kernel_rfl
theorem kT111:tyB Tryz.prog 111 true 6=true:=by kernel_rfl
theorem kT67:tyB Tryz.prog 67 false 1=true:=by kernel_rfl
theorem kY67:zlB Tryz.prog 67=true:=by kernel_rfl
theorem kE67:elB Tryz.prog 67 111 6 80=true:=by kernel_rfl
open Go.RowKit
set_option maxRecDepth 10000
set_option maxHeartbeats 1600000
theorem kN126:fnB Tryz.prog 126=true:=by kernel_rfl
theorem kP100:isPt Tryz.prog 100=true:=by kernel_rfl
theorem kL66:isSl Tryz.prog 66=true:=by kernel_rfl
theorem kT85:tyB Tryz.prog 85 true 2=true:=by kernel_rfl
theorem kZ85:y9 Tryz.prog 85=some zcGEvent:=by kernel_rfl
theorem kF85_0:fldB Tryz.prog 85 0 0=true:=by kernel_rfl
theorem kF85_1:fldB Tryz.prog 85 1 1=true:=by kernel_rfl
theorem kN78:fnB Tryz.prog 78=true:=by kernel_rfl
def xT(R:Rec)(x0:Tree)(x1:List Int)(x2:Str):Option ((Np Machine)×Int):=
(wN x0).bind λ v2=>
(gO ((!v2) == false) (wP x1)).bind λ v3=>
(gO (((!v2)||(!v3)) == false) (zZ x2)).bind λ v4=>
if(((!v2)||(!v3))||(!v4))=true then(some ((⟨none⟩:Np Machine),(-1:Int)))
else((jv x0 x1 (120:Int)).bind λ v15=>
(R.impl_machine_load1 v15 x2).bind λ v21=>
some ((⟨some v21.1⟩:Np Machine),v21.2.2))
theorem YG{R:Rec}(hR:R.ok){x0:Tree}{x1:List Int}{x2:Str}{r:(Np Machine)×Int}(h:xT R x0 x1 x2=some r):Fn Tryz.prog 88 [dt x0,dt x1,dt x2] (dtup [dt r.1,dt r.2]):=by
 unfold xT at h
 refine fnx (fn:=Tryz.f88) 1 Tryz.func88 rfl (of_decide_eq_true rfl) rfl (λ M _ _ st0=>?_)
 refine st0.sq2 (sc rfl (jf rfl (tp rfl))<|sc rfl (oA rfl Xl)<|sc rfl (oA rfl cI)<|.nil) [1,2,3] (λ _ _ st1=>?_)
 refine wp_seq ?_
 obtain⟨v2,p2,h5⟩:=bs h
 obtain⟨v3,p3,h6⟩:=bs h5
 obtain⟨v4,p4,h7⟩:=bs h6
 refine st1.sq2 (sc rfl (ze rfl kT30 (tp rfl))<|sc rfl (zq (l:=[.tmp 11]) rfl kN26 (.cons (tp rfl) .nil) (Xi p2))<|sc rfl (yz rfl (tp rfl))<|sc rfl (oM rfl (tp rfl))<|sg rfl rfl (λ hg=>oM rfl (tp rfl))<|sg rfl rfl (λ hg=>zq (l:=[.tmp 15]) rfl kN27 (.cons (zf hg rfl) .nil) (Xj (gh hg p3)))<|sg rfl rfl (λ hg=>yz rfl (zf hg rfl))<|sc rfl (xv rfl (tp rfl) (zb rfl))<|sc rfl (oM rfl (tp rfl))<|sg rfl rfl (λ hg=>oM rfl (tp rfl))<|sg rfl rfl (λ hg=>zq (l:=[.tmp 20]) rfl kN28 (.cons (zf hg rfl) .nil) (yF (gh hg p4)))<|sg rfl rfl (λ hg=>yz rfl (zf hg rfl))<|sc rfl (xv rfl (tp rfl) (zb rfl))<|.nil) [1,2,3,23] (λ _ _ st8=>?_)
 refine st8.cs rfl h7 (λ _ h9=>?_) (λ _ h10=>?_)
 ·
  refine st8.sq2 (sc rfl (oA rfl Xl)<|sc rfl (oA rfl cI)<|.nil) [6,7] (λ _ _ st11=>?_)
  refine wp_ret (zd ?_)
  have st12:=st11.addL (s:=6) (y:=dt (⟨none⟩:Np Machine)) (np_none.2 (st11.st.has 6 _ rfl)) rfl
  obtain rfl:=Option.some.inj h9
  exact st12.ret2 rfl (st12.frozen (t:=6) rfl) (st12.frozen (t:=7) rfl) ⟨rfl,rfl⟩ rfl
 refine wp_skip (za (wp_seq (wp_region_list ?_)))
 refine st8.segA 2 [2,24,25] [] (λ _ _ st13=>?_)
 obtain⟨v15,p15,h16⟩:=bs h10
 refine st13.cN (l:=[.tmp 24,.tmp 25,.const (.int .i64 120)]) 0 rfl rfl kN126 (.cons (tp rfl) (.cons (tp rfl) (.cons cI .nil))) (JC p15) (by simp) [2] rfl [] rfl rfl (λ G14 M14 _ _ st14=>?_)
 refine st14.nmB (s:=26) 0 rfl rfl iI [] rfl (λ b17 st17=>?_)
 refine st17.segA 1 [2] [(8,0)] (λ _ _ st18=>?_)
 refine wpList_nil (za (wp_seq (wp_region_list ?_)))
 refine st18.segA 2 [29] [(8,0),(28,0)] (λ _ _ st19=>?_)
 obtain⟨v21,p21,h22⟩:=bs h16
 refine st19.cSF (l:=[.tmp 29]) 0 (st19.bkN (s:=8) rfl iI) rfl rfl kN156 ((st19.st.has 28 _ rfl).1.trans (st19.st.has 8 _ rfl).1.symm) (by simp) (.cons (tp rfl) .nil) (hR.impl_machine_load1 p21) [] rfl [] rfl rfl (by decide) (λ G20 M20 _ _ st20=>?_)
 refine st20.segA 5 [10] [(8,0)] (λ _ _ st23=>?_)
 refine wpList_nil (za ?_)
 have st24:=st23.unm (s:=8) 0 rfl rfl iI [] rfl
 have st25:=st24.frzB (s:=8) 0 rfl (by simp) iI [10] rfl [] rfl rfl
 refine st25.sq1 [6,7] (λ _ _ st26=>?_)
 refine wp_ret ?_
 have st27:=st26.addL (s:=6) (y:=dt (⟨some v21.1⟩:Np Machine)) (np_some.2 (st26.st.has 6 _ rfl)) rfl
 obtain rfl:=Option.some.inj h22
 exact st27.ret2 rfl (st27.frozen (t:=6) rfl) (st27.frozen (t:=7) rfl) ⟨rfl,rfl⟩ rfl
def xp(_R:Rec)(x3:Int)(v10:Machine)(s13:(List Str)×Int):Option (((List Str)×Int)⊕(List Str)):=
if(cmpI .lss s13.2 (v10.log.length:Int))=true then(Option.bind (α:=(List Str)) ((atI v10.log s13.2).bind λ v19=>
if(cmpI .eql v19.kind x3)=true then((appO 16 s13.1 ([v19.name]:List Str)).bind λ v32=>
some v32)
else(some s13.1)) λ o18=>
(i64 (s13.2+(1:Int))).bind λ v36=>
some (.inl (o18,v36)))
else(some (.inr s13.1))
def wm(R:Rec)(x0:Tree)(x1:List Int)(x2:Str)(x3:Int):Option (List Str):=
(xT R x0 x1 x2).bind λ v2=>
Option.bind (α:=(List Str)) (if v2.1.o.isSome=true then((v2.1.o).bind λ v10=>
zX (λ s13=>xp R x3 v10 s13) ([],(0:Int)))
else(some [])) λ o6=>
some o6
theorem YV{R:Rec}(hR:R.ok){x0:Tree}{x1:List Int}{x2:Str}{x3:Int}{r:List Str}(h:wm R x0 x1 x2 x3=some r):FnOwn Tryz.prog 78 [dt x0,dt x1,dt x2,dt x3] 9 r:=by
 unfold wm at h
 refine fnxO (fn:=Tryz.f78) 2 Tryz.func78 rfl (of_decide_eq_true rfl) rfl (λ M w0 _ st0=>?_)
 refine st0.sq2 (sc rfl (jf rfl (tp rfl))<|sc rfl (oA rfl (Yv (α:=Str) (e:=9)))<|.nil) [1,2,3,4] (λ _ _ st1=>?_)
 obtain⟨v2,p2,h3⟩:=bsW h (YG hR)
 refine st1.sq1 [3,9] (λ _ _ st4=>?_)
 refine st4.sqB (sc rfl (Zu (α:=Str) (e:=9) rfl kS39)<|sc rfl (oA rfl (tp rfl))<|.nil) [3,9] [(11,0)] (λ _ _ st5=>?_)
 obtain⟨o6,p6,k6⟩:=bs h3
 refine zo (λ a w=>∃ M1 q6_0 q6_1,Sx (Frm.of w0) 44 M M1 [oneB q6_0,oneB q6_1] [] [(11,0,dtip q6_0 9 o6)] a w) ?_ ?_
 ·
  refine st5.sqB (sc rfl (oM rfl (tp rfl))<|sc rfl (xNepNil rfl kP100 (tp rfl))<|.nil) [3,9,23] [(11,0)] (λ _ _ st7=>?_)
  refine st7.cs rfl p6 (λ _ h8=>?_) (λ _ h9=>?_)
  ·
   obtain⟨v10,p10,h11⟩:=bs h8
   refine st7.sqB (sc rfl (oM rfl (tp rfl))<|sc rfl (xNcO rfl (tp rfl) p10)<|sc rfl (zh Machine.fld6 rfl kF108_6 (tp rfl))<|sc rfl (ze rfl kT66 (tp rfl))<|sc rfl (wz rfl kL66 (tp rfl))<|sc rfl (oM rfl cI)<|.nil) [3,27,28,29] [(11,0)] (λ _ _ st12=>?_)
   refine wp_block ?_
   refine zO h11 (λ s13 a w=>∃ M1 q13_0 q13_1,Sx (Frm.of w0) 44 M M1 [oneB q13_0,oneB q13_1] [(3,dt x3),(27,dt v10.log),(28,dt (v10.log.length:Int)),(29,dt s13.2)] [(11,0,dtip q13_0 9 s13.1)] a w) ⟨_,_,_,st12.sel [3,27,28,29] rfl [(11,0)] rfl ⟨iE,trivial⟩⟩ ?_
   rintro s13 z13 a13 w13 ⟨M13,q13_0,q13_1,st13⟩ hs13 hx13
   have h14:xp R x3 v10 s13=some z13:=hs13
   unfold xp at h14
   refine st13.sqA [3,27,28,29,30] [(11,0)] (λ _ _ st15=>?_)
   refine wp_seq ?_
   refine st15.cs rfl h14 (λ _ h16=>?_) (λ _ h17=>?_)
   ·
    refine wp_skip (za ?_)
    obtain⟨o18,p18,k18⟩:=bs h16
    refine zo (λ a w=>∃ M1 q18_0 q18_1,Sx (Frm.of w0) 44 M M1 [oneB q18_0,oneB q18_1] [(3,dt x3),(27,dt v10.log),(28,dt (v10.log.length:Int)),(29,dt s13.2)] [(11,0,dtip q18_0 9 o18)] a w) ?_ ?_
    ·
     refine wp_block (wp_seq (wp_region_list ?_))
     obtain⟨v19,p19,h20⟩:=bs p18
     refine st15.segA 2 [3,27,28,29,32] [(11,0)] (λ _ _ st21=>?_)
     refine st21.alloc 1 rfl rfl kZ85 zrGEvent (by simp) [3,27,28,29,32] rfl [11] rfl rfl (λ b23 M23 _ _ st23=>?_)
     refine st23.store (sb:=13) 1 FldS.id rfl rfl rfl kT85 rfl rfl (tp rfl) rfl [3,27,28,29] rfl [11] rfl rfl (λ M25 _ st25=>?_)
     refine wpList_nil (za ?_)
     refine st25.sqB (sc rfl (yu GEvent.fld0 rfl kF85_0 (tp rfl))<|sc rfl (zN rfl kT3 (tp rfl))<|sc rfl (oM rfl (tp rfl))<|sc rfl (oCI rfl (tp rfl) (tp rfl))<|.nil) [3,27,28,29,36] [(11,0),(13,1)] (λ _ _ st26=>?_)
     refine st26.cs rfl h20 (λ _ h27=>?_) (λ _ h28=>?_)
     ·
      refine wp_region_list ?_
      refine st26.segB 4 (sc rfl (oM rfl (tp rfl))<|sc rfl (yu GEvent.fld1 rfl kF85_1 (tp rfl))<|sc rfl (zN rfl kT9 (tp rfl))<|sc rfl (yc (opds:=[.tmp 39]) rfl kS39 kY39 rfl rfl (by decide) (.cons (tp rfl) .nil))<|.nil) [3,27,28,29,40] [(11,0),(37,0)] (λ _ _ st29=>?_)
      obtain⟨v32,p32,h33⟩:=bs h27
      refine st29.app 0 rfl rfl kE39 rfl rfl rfl wA p32 [3,27,28,29] rfl [] rfl rfl (λ g31 M31 _ _ st31=>?_)
      refine st31.segA 1 [3,27,28,29] [(11,0)] (λ _ _ st34=>?_)
      refine wpList_nil (zi (za ?_))
      obtain rfl:=Option.some.inj h33
      exact⟨_,_,_,st34.sel [3,27,28,29] rfl [(11,0)] rfl iT⟩
     refine wp_skip (zi (za ?_))
     obtain rfl:=Option.some.inj h28
     exact⟨_,_,_,st26.sel [3,27,28,29] rfl [(11,0)] rfl iT⟩
    rintro a18 w18 ⟨M18,q18_0,q18_1,st18⟩
    have h35:=k18
    obtain⟨v36,p36,h37⟩:=bs h35
    refine st18.rgA [3,27,28,29] [(11,0)] (λ _ _ st38=>?_)
    refine za ?_
    exact⟨_,(Option.some.inj h37).symm,⟨_,_,_,st38.sel [3,27,28,29] rfl [(11,0)] rfl iT⟩⟩
   refine wp_exit (zn (zn (zG ?_)))
   refine za ?_
   have h39:=lo h17 hx13
   obtain rfl:=Option.some.inj h39
   exact⟨_,_,_,st15.sel [] rfl [(11,0)] rfl iT⟩
  refine wp_skip (za ?_)
  obtain rfl:=Option.some.inj h9
  exact⟨_,_,_,st7.sel [] rfl [(11,0)] rfl ⟨iE,trivial⟩⟩
 rintro a6 w6 ⟨M6,q6_0,q6_1,st6⟩
 have h40:=k6
 refine st6.sqA [] [(8,0)] (λ _ _ st41=>?_)
 refine wp_ret ?_
 exact st41.ret_own 0 rfl rfl iI h40
def jO(R:Rec)(x0:Tree)(x1:List Int)(x2:Str):Option (List Str):=
(wm R x0 x1 x2 (1:Int)).bind λ v4=>
some v4
theorem Qd{R:Rec}(hR:R.ok){x0:Tree}{x1:List Int}{x2:Str}{r:List Str}(h:jO R x0 x1 x2=some r):FnN Tryz.prog 23 [dt x0,dt x1,dt x2] (.ow (Ow.row 9 (Ow.frz (α:=Str))) r):=by
 unfold jO at h
 refine fnN (fn:=Tryz.f23) 1 Tryz.func23 rfl (of_decide_eq_true rfl) rfl (λ M _ _ st0=>?_)
 refine st0.sq2 (sc rfl (jf rfl (tp rfl))<|sc rfl (oA rfl (qG (α:=Str)))<|.nil) [1,2,3] (λ _ _ st1=>?_)
 refine wp_seq (wp_region_list ?_)
 refine st1.segA 3 [7,8,9] [] (λ _ _ st2=>?_)
 obtain⟨v4,p4,h5⟩:=bs h
 refine st2.cN (l:=[.tmp 7,.tmp 8,.tmp 9,.const (.int .i64 1)]) 0 rfl rfl kN78 (.cons (tp rfl) (.cons (tp rfl) (.cons (tp rfl) (.cons cI .nil)))) (YV hR p4).n (by simp) [] rfl [] rfl rfl (λ G3 M3 _ _ st3=>?_)
 refine st3.nmR (s:=10) 0 rfl rfl iI [] rfl (λ g6 A6 _ hA6 st6=>?_)
 refine st6.segA 1 [] [(6,0)] (λ _ _ st7=>?_)
 refine wpList_nil (za (wp_ret ?_))
 have st8:=st7.unm (s:=6) 0 rfl rfl iI [] rfl
 exact st8.rnO 0 rfl rfl iI h5
def wn(R:Rec)(x0:Tree)(x1:List Int)(x2:Str):Option (List Str):=
(wm R x0 x1 x2 (0:Int)).bind λ v4=>
some v4
theorem JE{R:Rec}(hR:R.ok){x0:Tree}{x1:List Int}{x2:Str}{r:List Str}(h:wn R x0 x1 x2=some r):FnN Tryz.prog 30 [dt x0,dt x1,dt x2] (.ow (Ow.row 9 (Ow.frz (α:=Str))) r):=by
 unfold wn at h
 refine fnN (fn:=Tryz.f30) 1 Tryz.func30 rfl (of_decide_eq_true rfl) rfl (λ M _ _ st0=>?_)
 refine st0.sq2 (sc rfl (jf rfl (tp rfl))<|sc rfl (oA rfl (qG (α:=Str)))<|.nil) [1,2,3] (λ _ _ st1=>?_)
 refine wp_seq (wp_region_list ?_)
 refine st1.segA 3 [7,8,9] [] (λ _ _ st2=>?_)
 obtain⟨v4,p4,h5⟩:=bs h
 refine st2.cN (l:=[.tmp 7,.tmp 8,.tmp 9,.const (.int .i64 0)]) 0 rfl rfl kN78 (.cons (tp rfl) (.cons (tp rfl) (.cons (tp rfl) (.cons cI .nil)))) (YV hR p4).n (by simp) [] rfl [] rfl rfl (λ G3 M3 _ _ st3=>?_)
 refine st3.nmR (s:=10) 0 rfl rfl iI [] rfl (λ g6 A6 _ hA6 st6=>?_)
 refine st6.segA 1 [] [(6,0)] (λ _ _ st7=>?_)
 refine wpList_nil (za (wp_ret ?_))
 have st8:=st7.unm (s:=6) 0 rfl rfl iI [] rfl
 exact st8.rnO 0 rfl rfl iI h5
def xM(_R:Rec)(v10:Machine)(s13:(List Str)×Int):Option (((List Str)×Int)⊕(List Str)):=
if(cmpI .lss s13.2 (v10.modules.length:Int))=true then(Option.bind (α:=(List Str)) ((atI v10.modules s13.2).bind λ v19=>
if v19.x.cached=true then((appO 16 s13.1 ([v19.x.name]:List Str)).bind λ v28=>
some v28)
else(some s13.1)) λ o18=>
(i64 (s13.2+(1:Int))).bind λ v32=>
some (.inl (o18,v32)))
else(some (.inr s13.1))
def wR(R:Rec)(x0:Tree)(x1:List Int)(x2:Str):Option (Int×(List Str)):=
(xT R x0 x1 x2).bind λ v2=>
Option.bind (α:=(List Str)) (if v2.1.o.isSome=true then((v2.1.o).bind λ v10=>
zX (λ s13=>xM R v10 s13) ([],(0:Int)))
else(some [])) λ o6=>
some (v2.2,o6)
theorem Qe{R:Rec}(hR:R.ok){x0:Tree}{x1:List Int}{x2:Str}{r:Int×(List Str)}(h:wR R x0 x1 x2=some r):FnN Tryz.prog 29 [dt x0,dt x1,dt x2] (.t2 (dt r.1) (Ow.row 9 (Ow.frz (α:=Str))) r.2):=by
 unfold wR at h
 refine fnN (fn:=Tryz.f29) 1 Tryz.func29 rfl (of_decide_eq_true rfl) rfl (λ M w0 _ st0=>?_)
 refine st0.sq2 (sc rfl (jf rfl (tp rfl))<|sc rfl (oA rfl cI)<|sc rfl (oA rfl (Yv (α:=Str) (e:=9)))<|.nil) [1,2,3] (λ _ _ st1=>?_)
 obtain⟨v2,p2,h3⟩:=bsW h (YG hR)
 refine st1.sq1 [8,9] (λ _ _ st4=>?_)
 refine st4.sqB (sc rfl (Zu (α:=Str) (e:=9) rfl kS39)<|sc rfl (oA rfl (tp rfl))<|.nil) [8,9] [(10,0)] (λ _ _ st5=>?_)
 obtain⟨o6,p6,k6⟩:=bs h3
 refine zo (λ a w=>∃ M1 q6_0,Sx (Frm.of w0) 46 M M1 [oneB q6_0] [(9,dt v2.2)] [(10,0,dtip q6_0 9 o6)] a w) ?_ ?_
 ·
  refine st5.sqB (sc rfl (oM rfl (tp rfl))<|sc rfl (xNepNil rfl kP100 (tp rfl))<|.nil) [8,9,22] [(10,0)] (λ _ _ st7=>?_)
  refine st7.cs rfl p6 (λ _ h8=>?_) (λ _ h9=>?_)
  ·
   obtain⟨v10,p10,h11⟩:=bs h8
   refine st7.sqB (sc rfl (oM rfl (tp rfl))<|sc rfl (xNcO rfl (tp rfl) p10)<|sc rfl (zh Machine.fld4 rfl qk (tp rfl))<|sc rfl (ze rfl YD (tp rfl))<|sc rfl (wz rfl kL106 (tp rfl))<|sc rfl (oM rfl cI)<|.nil) [9,26,27,28] [(10,0)] (λ _ _ st12=>?_)
   refine wp_block ?_
   refine zO h11 (λ s13 a w=>∃ M1 q13_0,Sx (Frm.of w0) 46 M M1 [oneB q13_0] [(9,dt v2.2),(26,dt v10.modules),(27,dt (v10.modules.length:Int)),(28,dt s13.2)] [(10,0,dtip q13_0 9 s13.1)] a w) ⟨_,_,st12.sel [9,26,27,28] rfl [(10,0)] rfl ⟨iE,trivial⟩⟩ ?_
   rintro s13 z13 a13 w13 ⟨M13,q13_0,st13⟩ hs13 hx13
   have h14:xM R v10 s13=some z13:=hs13
   unfold xM at h14
   refine st13.sqA [9,26,27,28,29] [(10,0)] (λ _ _ st15=>?_)
   refine wp_seq ?_
   refine st15.cs rfl h14 (λ _ h16=>?_) (λ _ h17=>?_)
   ·
    refine wp_skip (za ?_)
    obtain⟨o18,p18,k18⟩:=bs h16
    refine zo (λ a w=>∃ M1 q18_0,Sx (Frm.of w0) 46 M M1 [oneB q18_0] [(9,dt v2.2),(26,dt v10.modules),(27,dt (v10.modules.length:Int)),(28,dt s13.2)] [(10,0,dtip q18_0 9 o18)] a w) ?_ ?_
    ·
     refine wp_block ?_
     obtain⟨v19,p19,h20⟩:=bs p18
     refine st15.sqB (sc rfl (xIdx rfl XQ (tp rfl) (tp rfl) p19)<|sc rfl (OpRel.bx (ze rfl Xn (tp rfl)))<|sc rfl (oA rfl (tp rfl))<|.nil) [9,12,26,27,28] [(10,0)] (λ _ _ st21=>?_)
     refine st21.sqB (sc rfl (oM rfl (tp rfl))<|sc rfl (xNcP rfl (tp rfl))<|sc rfl (zh GMod.fld3 rfl JA (tp rfl))<|sc rfl (ze rfl kT4 (tp rfl))<|.nil) [9,12,26,27,28,35] [(10,0)] (λ _ _ st22=>?_)
     refine st22.cs rfl h20 (λ _ h23=>?_) (λ _ h24=>?_)
     ·
      refine wp_region_list ?_
      refine st22.segB 6 (sc rfl (oM rfl (tp rfl))<|sc rfl (oM rfl (tp rfl))<|sc rfl (xNcP rfl (tp rfl))<|sc rfl (zh GMod.fld0 rfl ZR (tp rfl))<|sc rfl (ze rfl kT9 (tp rfl))<|sc rfl (yc (opds:=[.tmp 40]) rfl kS39 kY39 rfl rfl (by decide) (.cons (tp rfl) .nil))<|.nil) [9,26,27,28,41] [(10,0),(36,0)] (λ _ _ st25=>?_)
      obtain⟨v28,p28,h29⟩:=bs h23
      refine st25.app 0 rfl rfl kE39 rfl rfl rfl wA p28 [9,26,27,28] rfl [] rfl rfl (λ g27 M27 _ _ st27=>?_)
      refine st27.segA 1 [9,26,27,28] [(10,0)] (λ _ _ st30=>?_)
      refine wpList_nil (zi (za ?_))
      obtain rfl:=Option.some.inj h29
      exact⟨_,_,st30.sel [9,26,27,28] rfl [(10,0)] rfl iT⟩
     refine wp_skip (zi (za ?_))
     obtain rfl:=Option.some.inj h24
     exact⟨_,_,st22.sel [9,26,27,28] rfl [(10,0)] rfl iT⟩
    rintro a18 w18 ⟨M18,q18_0,st18⟩
    have h31:=k18
    obtain⟨v32,p32,h33⟩:=bs h31
    refine st18.rgA [9,26,27,28] [(10,0)] (λ _ _ st34=>?_)
    refine za ?_
    exact⟨_,(Option.some.inj h33).symm,⟨_,_,st34.sel [9,26,27,28] rfl [(10,0)] rfl iT⟩⟩
   refine wp_exit (zn (zn (zG ?_)))
   refine za ?_
   have h35:=lo h17 hx13
   obtain rfl:=Option.some.inj h35
   exact⟨_,_,st15.sel [9] rfl [(10,0)] rfl iT⟩
  refine wp_skip (za ?_)
  obtain rfl:=Option.some.inj h9
  exact⟨_,_,st7.sel [9] rfl [(10,0)] rfl ⟨iE,trivial⟩⟩
 rintro a6 w6 ⟨M6,q6_0,st6⟩
 have h36:=k6
 refine st6.sqA [6] [(7,0)] (λ _ _ st37=>?_)
 refine wp_ret ?_
 have st38:=st37.tipW (s:=7) 0 rfl rfl iI [] rfl
 exact st38.rn2 0 rfl rfl rfl iI h36
end Go.Proofs.YtiiiokblnnlapaaGreatDoor
