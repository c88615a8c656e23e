import Derived.Test.YtpmkkijamfgaeaaGreatDoorRB
import Derived.Test.YtpmkkijamfgaeaaGreatDoorRO
import Derived.Test.YtpmkkijamfgaeaaGreatDoorRH
namespace Go.Proofs.YtpmkkijamfgaeaaGreatDoor
open Go.RowKit Tryz
attribute [local irreducible] OpRel OpdR
set_option maxRecDepth 10000
set_option maxHeartbeats 1600000
theorem kF71_1:fldB prog 71 1 1=true:=by kernel_rfl
theorem kF94_3:fldB prog 94 3 3=true:=by kernel_rfl
theorem kT91:tyB prog 91 false 1=true:=by kernel_rfl
theorem kF94_8:fldB prog 94 8 8=true:=by kernel_rfl
theorem kN120:fnB prog 120=true:=by kernel_rfl
theorem kB98:bldB prog 98 [1,1,1,1,1,1]=true:=by kernel_rfl
theorem kC98:qm prog 98 [1,1,1,1,1,1]=some zpGMod:=by kernel_rfl
theorem kI92:sliB prog 92 95 1=true:=by kernel_rfl
theorem kY92:zlB prog 92=true:=by kernel_rfl
theorem kE92:elB prog 92 95 1 8=true:=by kernel_rfl
theorem JD:∀ {M:Nat->Prop} {look:Nat->Option Dt} {o:Oper} {q0 q1:Operand} {y0:Int} {y1:Int},o.op=.build 154 #[(0,q0),(1,q1)]->OpdR M look q0 (dt y0)->OpdR M look q1 (dt y1)->OpRel prog M look o (dt (⟨y0,y1⟩:GVal)):=@λ _ _ _ q0 q1 y0 y1 ho h0 h1=>yv (parts:=[(0,q0),(1,q1)]) (ns:=[1,1]) (zs:=zpGVal) rfl ho kB154 kC154 (λ w a hl=>by
 intro p hp;simp only[List.mem_cons,List.not_mem_nil,or_false] at hp
 rcases hp with rfl | rfl
 ·
  exact⟨(by decide:0<2),Rep.len (α:=Int) (OpdR.cells h0 hl)⟩
 ·
  exact⟨(by decide:1<2),Rep.len (α:=Int) (OpdR.cells h1 hl)⟩) (λ w a hl=>GVal.parts (x:=(⟨y0,y1⟩:GVal)) (OpdR.cells h0 hl) (OpdR.cells h1 hl))
theorem kN122:fnB prog 122=true:=by kernel_rfl
theorem kN107:fnB prog 107=true:=by kernel_rfl
theorem kN106:fnB prog 106=true:=by kernel_rfl
theorem kN203:fnB prog 203=true:=by kernel_rfl
theorem kF94_5:fldB prog 94 5 5=true:=by kernel_rfl
theorem kF154_1:fldB prog 154 1 1=true:=by kernel_rfl
instance iF94_4MaC:FldO prog 94 4 4:=⟨XA⟩
instance iF94_5MaC:FldO prog 94 5 5:=⟨kF94_5⟩
instance iF94_8MaC:FldO prog 94 8 8:=⟨kF94_8⟩
instance iF98_0MaC:FldO prog 98 0 0:=⟨zaR⟩
instance iF98_3MaC:FldO prog 98 3 3:=⟨kF98_3⟩
instance iF98_4MaC:FldO prog 98 4 4:=⟨kF98_4⟩
instance iF98_5MaC:FldO prog 98 5 5:=⟨zaS⟩
structure Rec where
 impl_machine_load1:Machine->Str->Option (Machine×Int×Int)
 impl_machine_body:Machine->Int->Spec->Option (Machine×Int)
 impl_machine_do:Machine->Int->Stmt->Option (Machine×Int)
def Rec.no:Rec:=⟨λ _ _=>none,λ _ _ _=>none,λ _ _ _=>none⟩
structure Rec.ok(R:Rec):Prop where
 impl_machine_load1:∀ {x0:Machine} {x1:Str} {r:Machine×Int×Int},R.impl_machine_load1 x0 x1=some r->∀ {ps:List (Nat×Nat)},FnS prog 68 (oMac ps) ⟨x0⟩ [dt x1] ⟨r.1⟩ (.frz (dtup [dt r.2.1,dt r.2.2]))
 impl_machine_body:∀ {x0:Machine} {x1:Int} {x2:Spec} {r:Machine×Int},R.impl_machine_body x0 x1 x2=some r->∀ {ps:List (Nat×Nat)},FnS prog 121 (oMac ps) ⟨x0⟩ [dt x1,dt x2] ⟨r.1⟩ (.frz (dt r.2))
 impl_machine_do:∀ {x0:Machine} {x1:Int} {x2:Stmt} {r:Machine×Int},R.impl_machine_do x0 x1 x2=some r->∀ {ps:List (Nat×Nat)},FnS prog 163 (oMac ps) ⟨x0⟩ [dt x1,dt x2] ⟨r.1⟩ (.frz (dt r.2))
theorem Rec.no_ok:Rec.no.ok:=⟨(λ h=>nomatch h),(λ h=>nomatch h),(λ h=>nomatch h)⟩
def yf(R:Rec)(x1:Int)(v20:List Stmt)(s24:Machine×Int×Int):Option ((Machine×Int×Int)⊕(Machine×Int)):=
if(cmpI .lss s24.2.2 (v20.length:Int))=true then((atI v20 s24.2.2).bind λ v29=>
if(cmpI .eql s24.1.left (0:Int))=true then(some (.inr (s24.1,(6:Int))))
else((i64 (s24.1.left - (1:Int))).bind λ v41=>
(R.impl_machine_do ({ s24.1 with left:=v41 }) x1 v29).bind λ v47=>
if(cmpI .neq v47.2 (0:Int))=true then(some (.inr (v47.1,v47.2)))
else((i64 (s24.2.2+(1:Int))).bind λ v54=>
some (.inl (v47.1,v47.2,v54)))))
else(some (.inr (s24.1,s24.2.1)))
def wR(R:Rec)(x0:Machine)(x1:Int)(x2:Spec):Option (Machine×Int):=
(atI x0.modules x1).bind λ _v3=>
(x0.modules[x1.toNat]?).bind λ v5=>
(yB x0 (0:Int) v5.x.name).bind λ v12=>
Option.bind (α:=Machine×Int) (if(cmpI .geq x2.file (0:Int))=true then((atI v12.t.files x2.file).bind λ v19=>
(v12.load.g v19).bind λ v20=>
zM (λ s24=>yf R x1 v20 s24) (v12,(0:Int),(0:Int)))
else(some (v12,(0:Int)))) λ o15=>
Option.bind (α:=Machine) (if(cmpI .eql o15.2 (0:Int))=true then((yB o15.1 (1:Int) v5.x.name).bind λ v65=>
some v65)
else((yB o15.1 (2:Int) v5.x.name).bind λ v69=>
some v69)) λ o59=>
some (o59,o15.2)
theorem JQ{R:Rec}(hR:R.ok){ps:List (Nat×Nat)}{x0:Machine}{x1:Int}{x2:Spec}{r:Machine×Int}(h:wR R x0 x1 x2=some r):FnS prog 121 (oMac ps) ⟨x0⟩ [dt x1,dt x2] ⟨r.1⟩ (.frz (dt r.2)):=by
 unfold wR at h
 refine fnSB (fn:=f121) 0 2 func121 rfl (oD rfl) rfl (λ M G w0 b0 _ st0=>?_)
 refine st0.sqA [1,5] [(0,0)] (λ _ _ st1=>?_)
 obtain⟨v3,p3,v5,p5,h7⟩:=bsB h
 refine st1.hdF (s:=0) 0 true (λ _=>((PV.root.box rfl).fld owMachine.f4)) rfl rfl iI [] rfl (λ g2 A2 _ hA2 st2=>?_)
 refine st2.mintP (s:=0) 0 rfl rfl iI (jX (owMachine.impE4 (qu (zx (yh p3).2)))) [] rfl (λ b4 st4=>?_)
 refine st4.sqB (sP 5 (r:=by exact sc rfl (xIa (g:=g2) rfl kS92 (tp rfl) (tp rfl) rfl (λ h=>hA2 h rfl) p3)<|sc rfl (xLdP (sb:=0) ((PV.root.box rfl).fld owMachine.f4) (.head _) rfl (λ h=>hA2 h rfl) (.head _) (yh p3).2 (Nat.mul_one _) rfl kT95 (tp rfl) rfl)<|sP 2 (r:=by exact sc rfl (xLf (sb:=0) ((((PV.root.box rfl).fld owMachine.f4).rowP (.head _) p5).fld owGModR.f0) rfl kT9 (tp rfl) rfl)<|segC))) [1,5,7] [(0,0)] (λ _ _ st8=>?_)
 have st9:=st8.ncf (s:=0) 0 rfl rfl iI [] rfl
 refine wp_seq (wp_region_list ?_)
 refine st9.segC 2 [1,5,7,21,22] [(0,0)] (λ _ _ st10=>?_)
 obtain⟨v12,p12,h13⟩:=bs h7
 refine st10.cNA 0 0 (FnS.any (jD p12)) [1,5,7] [] (λ _ _ _ _ st11=>wpList_nil (za ?_))
 refine st11.sqA [1,5,7,8] [(0,0)] (λ _ _ st14=>?_)
 obtain⟨o15,p15,k15⟩:=bs h13
 refine zj (λ a w=>∃ M1 q15_0 q15_1,Sx (Frm.chg w0 G) 74 M M1 [q15_0,oneB q15_1] [(7,dt v5.x.name),(8,dt o15.2)] [(0,0,dnm (oMac ((x1.toNat,b4)::ps)) q15_0 ⟨o15.1⟩ (.pointer (some ⟨b0,0,none⟩)) [])] a w) ?_ ?_
 ·
  refine st14.sqA [1,5,7,8,26] [(0,0)] (λ _ _ st16=>?_)
  refine st16.cs rfl p15 (λ _ h17=>wp_seq ?_) (λ _ h18=>wp_skip (za ?_))
  ·
   obtain⟨v19,p19,v20,p20,h22⟩:=bsB h17
   refine st16.drA (D:=[_,_,_,_,_,_,_,_,_,_,_,_,_,_,_,_]) zK [[(0,nS)],[(27,0)],[(28,1)],[(29,2),(0,nS)],[(0,nS)],[(31,4)],[(32,5)],[(33,6)],[(34,7),(0,nS)],[(5,nS)],[(36,9)],[(35,8),(37,10)],[(38,11)],[(30,3),(39,12)],[(40,13)],[]] [1,7,8,40,41,42] [(0,0)] (λ _ _ st23=>?_) (hs:=rc rfl rfl (oM rfl (zQ rfl))<|rc rfl rfl (xNc rfl (tp rfl))<|rc rfl rfl (xFa rfl kF94_3 (tp rfl))<|rc rfl rfl (OpRel.fnv (xLf (sb:=0) ((PV.root.box rfl).fld owMachine.f3) rfl kT91 (tp rfl) rfl))<|rc rfl rfl (oM rfl (zQ rfl))<|rc rfl rfl (xNc rfl (tp rfl))<|rc rfl rfl (xFa rfl kF94_0 (tp rfl))<|rc rfl rfl (xFa rfl jI (tp rfl))<|rc rfl rfl (xLf (sb:=0) (((PV.root.box rfl).fld owMachine.f0).fld Tree.z0) rfl kT23 (tp rfl) rfl)<|rc rfl rfl (zD Spec.fld1 rfl kF71_1 (tp rfl))<|rc rfl rfl (zp rfl kT3 (tp rfl))<|rc rfl rfl (xIdx rfl kS23 (tp rfl) (tp rfl) p19)<|rc rfl rfl (zp rfl kT51 (tp rfl))<|rc rfl rfl (xCaF1 rfl (tp rfl) (tp rfl) p20)<|rc rfl rfl (XR rfl kL49 (tp rfl))<|rc rfl rfl (oM rfl cI)<|.nil)
   refine za (wp_block ?_)
   refine zG h22 (λ s24 a w=>∃ M1 q24_0 q24_1,Sx (Frm.chg w0 G) 74 M M1 [q24_0,oneB q24_1] [(1,dt x1),(7,dt v5.x.name),(8,dt s24.2.1),(40,dt v20),(41,dt (v20.length:Int)),(42,dt s24.2.2)] [(0,0,dnm (oMac ((x1.toNat,b4)::ps)) q24_0 ⟨s24.1⟩ (.pointer (some ⟨b0,0,none⟩)) [])] a w) fx ?_
   rintro s24 z24 a24 w24 ⟨M24,q24_0,q24_1,st24⟩ hs24 hx24
   have h25:yf R x1 v20 s24=some z24:=hs24
   unfold yf at h25
   refine st24.sqA [1,7,8,40,41,42,43] [(0,0)] (λ _ _ st26=>wp_seq ?_)
   refine st26.cs rfl h25 (λ _ h27=>wp_skip (za (wp_seq (wp_block (wp_seq (wp_region_list ?_)))))) (λ _ h28=>wp_exit (zi (zi (zy ?_))))
   ·
    obtain⟨v29,p29,h30⟩:=bs h27
    refine st26.segA 2 [1,7,40,41,42,45] [(0,0)] (λ _ _ st31=>?_)
    refine st31.alA 1 Qo [1,7,40,41,42,45] [0] (λ b33 _ _ _ st33=>?_)
    refine st33.stA 10 1 FldS.id (tp rfl) [1,7,40,41,42] [0] (λ _ _ st35=>wpList_nil (za (wp_seq ?_)))
    refine st35.sqB (sP 3 (r:=by exact sc rfl (xLf (sb:=0) ((PV.root.box rfl).fld owMachine.f8) rfl kT3 (tp rfl) rfl)<|segC)) [1,7,40,41,42,50] [(0,0),(10,1)] (λ _ _ st36=>?_)
    refine st36.cs rfl h30 (λ _ h37=>?_) (λ _ h38=>wp_skip (za (wp_seq (wp_region_list ?_))))
    ·
     refine st36.sqA [7,8] [(0,0)] (λ _ _ st39=>?_)
     refine wp_exit (zi (exit_out (by decide) (zi (zi (zy ?_)))))
     refine za ?_
     have h40:=lo h37 hx24
     cases h40
     exact fx
    obtain⟨v41,p41,h42⟩:=bs h38
    refine st36.segB 7 (sP 3 (r:=by exact sc rfl (xLf (sb:=0) ((PV.root.box rfl).fld owMachine.f8) rfl kT3 (tp rfl) rfl)<|segC)) [1,7,40,41,42,55,57] [(0,0),(10,1)] (λ _ _ st43=>?_)
    refine st43.sfA 0 0 ((PV.root.box rfl).fld owMachine.f8) (tp rfl) (tp rfl) [1,7,40,41,42] [10] (λ _ st44=>wpList_nil (za (wp_seq (wp_region_list ?_))))
    refine st44.segC 3 [1,7,40,41,42,58,59,60] [(0,0)] (λ _ _ st45=>?_)
    obtain⟨v47,p47,h48⟩:=bs h42
    refine st45.cNA 0 0 (hR.impl_machine_do p47) [1,7,40,41,42] [] (λ _ _ _ _ st46=>?_)
    refine st46.segA 1 [1,7,8,40,41,42] [(0,0)] (λ _ _ st49=>wpList_nil (za ?_))
    refine st49.sqA [1,7,8,40,41,42,63] [(0,0)] (λ _ _ st50=>?_)
    refine st50.cs rfl h48 (λ _ h51=>?_) (λ _ h52=>wp_skip (zf (za ?_)))
    ·
     refine wp_exit (exit_out (by decide) (zi (zi (zy ?_))))
     refine za ?_
     have h53:=lo h51 hx24
     cases h53
     exact fx
    obtain⟨v54,p54,h55⟩:=bs h52
    refine st50.rgA [1,7,8,40,41,42] [(0,0)] (λ _ _ st56=>za ?_)
    exact fl h55
   refine za ?_
   have h57:=lo h28 hx24
   cases h57
   exact fx
  cases h18
  exact fx
 rintro a15 w15 ⟨M15,q15_0,q15_1,st15⟩
 have h58:=k15
 obtain⟨o59,p59,k59⟩:=bs h58
 refine zj (λ a w=>∃ M1 q59_0 q59_1,Sx (Frm.chg w0 G) 74 M M1 [q59_0,oneB q59_1] [(8,dt o15.2)] [(0,0,dnm (oMac ((x1.toNat,b4)::ps)) q59_0 ⟨o59⟩ (.pointer (some ⟨b0,0,none⟩)) [])] a w) ?_ ?_
 ·
  refine st15.sqA [7,8,66] [(0,0)] (λ _ _ st60=>?_)
  refine st60.cs rfl p59 (λ _ h61=>wp_region_list ?_) (λ _ h62=>wp_region_list ?_)
  ·
   refine st60.segC 2 [8,67,68] [(0,0)] (λ _ _ st63=>?_)
   obtain⟨v65,p65,h66⟩:=bs h61
   refine st63.cNA 0 0 (FnS.any (jD p65)) [8] [] (λ _ _ _ _ st64=>wpList_nil (za ?_))
   cases h66
   exact fx
  refine st60.segC 2 [8,70,71] [(0,0)] (λ _ _ st67=>?_)
  obtain⟨v69,p69,h70⟩:=bs h62
  refine st67.cNA 0 0 (FnS.any (jD p69)) [8] [] (λ _ _ _ _ st68=>wpList_nil (za ?_))
  cases h70
  exact fx
 rintro a59 w59 ⟨M59,q59_0,q59_1,st59⟩
 have h71:=k59
 refine st59.sqA [6] [(0,0)] (λ _ _ st72=>wp_ret ?_)
 have st73:=st72.asA 0 0 (y9 (owMachine.imp4 (yH (λ _ h=>(.tail _ h))))) []
 exact st73.rsF (s:=0) 0 rfl rfl rfl iI (bxr h71) yk
def wA(R:Rec)(x0:Machine)(x1:Str):Option (Machine×Int×Int):=
(zS x0 x1).bind λ v2=>
if(cmpI .geq v2 (0:Int))=true then((wn x0 v2).bind λ v10=>
some (v10.1,v10.2,(0:Int)))
else((yG x1).bind λ v14=>
Option.bind (α:=Machine⊕(Machine×Int×Int)) (if(decide (v14≠(⟨[]⟩:Str)))=true then((R.impl_machine_load1 x0 v14).bind λ v23=>
if(cmpI .neq v23.2.2 (0:Int))=true then(some (.inr (v23.1,(-1:Int),v23.2.2)))
else((zS v23.1 x1).bind λ v32=>
if(cmpI .geq v32 (0:Int))=true then((wn v23.1 v32).bind λ v40=>
some (.inr (v40.1,v40.2,(0:Int))))
else(some (.inl v23.1))))
else(some (.inl x0))) (Sum.elim (λ b17=>
(yp b17 x1).bind λ v48=>
if(cmpI .eql v48.2.kind (0:Int))=true then(some (v48.1,(-1:Int),(1:Int)))
else((appO 8 [] v48.2.roots).bind λ v63=>
(appO 8 v48.1.modules [⟨(⟨x1,v48.2.kind,v63,true,false,[]⟩:GMod)⟩]).bind λ v84=>
(R.impl_machine_body ({ v48.1 with modules:=v84 }) (v48.1.modules.length:Int) v48.2).bind λ v93=>
if(cmpI .neq v93.2 (0:Int))=true then((v93.1.modules[v48.1.modules.length]?).bind λ v100=>
some ({ v93.1 with modules:=(v93.1.modules.set v48.1.modules.length ⟨{ v100.x with cached:=false }⟩) },(-1:Int),v93.2))
else((v93.1.modules[v48.1.modules.length]?).bind λ v106=>
Option.bind (α:=Machine) ((zS ({ v93.1 with modules:=(v93.1.modules.set v48.1.modules.length ⟨{ v106.x with done:=true }⟩) }) v14).bind λ v111=>
if(decide (v14≠(⟨[]⟩:Str))&&cmpI .geq v111 (0:Int))=true then((atI (v93.1.modules.set v48.1.modules.length ⟨{ v106.x with done:=true }⟩) v111).bind λ _v118=>
(wW x1).bind λ v120=>
((v93.1.modules.set v48.1.modules.length ⟨{ v106.x with done:=true }⟩)[v111.toNat]?).bind λ v125=>
(yb v125.x v120 (⟨(1:Int),(v48.1.modules.length:Int)⟩:GVal)).bind λ v127=>
some ({ v93.1 with modules:=((v93.1.modules.set v48.1.modules.length ⟨{ v106.x with done:=true }⟩).set v111.toNat ⟨v127⟩) }))
else(some ({ v93.1 with modules:=(v93.1.modules.set v48.1.modules.length ⟨{ v106.x with done:=true }⟩) }))) λ o110=>
some (o110,(v48.1.modules.length:Int),(0:Int))))) some))
theorem Je{R:Rec}(hR:R.ok){ps:List (Nat×Nat)}{x0:Machine}{x1:Str}{r:Machine×Int×Int}(h:wA R x0 x1=some r):FnS prog 68 (oMac ps) ⟨x0⟩ [dt x1] ⟨r.1⟩ (.frz (dtup [dt r.2.1,dt r.2.2])):=by
 unfold wA at h
 refine fnSB (fn:=f68) 5 7 func68 rfl (oD rfl) rfl (λ M G w0 b0 _ st0=>?_)
 refine st0.sqA [1] [(0,5)] (λ _ _ st1=>wp_seq ?_)
 obtain⟨v2,p2,h3⟩:=bs h
 refine st1.sqB (sP 2 (r:=by exact sc rfl (xE (l:=[.tmp 16,.tmp 17]) st1.ob.sub rfl kN118 (.cons (lendA (sb:=0) st1.ob 5 (tp rfl) rfl iI) (.cons (jm st1.ob.sub (tp rfl)) .nil)) (yw p2) yk)<|segC)) [1,6] [(0,5)] (λ _ _ st4=>?_)
 refine st4.sqA [1,6,20] [(0,5)] (λ _ _ st5=>?_)
 refine st5.cs rfl h3 (λ _ h6=>wp_seq (wp_region_list ?_)) (λ _ h7=>wp_skip (za ?_))
 ·
  refine st5.segC 2 [21,22] [(0,5)] (λ _ _ st8=>?_)
  obtain⟨v10,p10,h11⟩:=bs h6
  refine st8.cNA 5 0 (XD p10) [] [] (λ G9 _ _ _ st12=>?_)
  refine st12.segA 2 [4,5] [(0,5)] (λ _ _ st13=>wpList_nil (za ?_))
  refine wp_ret (ze ?_)
  exact st13.rs2 (s:=0) 5 rfl rfl rfl rfl iI (bxr h11)
 obtain⟨v14,p14,h15⟩:=bsW h7 qt
 refine st5.sqA [1,7] [(0,5)] (λ _ _ st16=>?_)
 obtain⟨o17,p17,k17⟩:=bs h15
 refine zj (λ a w=>∃ b17,o17=.inl b17/\(∃ M1 q17_0 q17_1 q17_2 q17_3 q17_4 q17_5 q17_6,Sx (Frm.chg w0 G) 111 M M1 [oneB q17_0,q17_1,q17_2,q17_3,q17_4,q17_5,oneB q17_6] [(1,dt x1),(7,dt v14)] [(0,5,dnm (oMac ps) q17_5 ⟨b17⟩ (.pointer (some ⟨b0,0,none⟩)) [])] a w)) ?_ ?_
 ·
  refine st16.sqA [1,7,27] [(0,5)] (λ _ _ st18=>?_)
  refine st18.cs rfl p17 (λ _ h19=>wp_seq (wp_seq (wp_region_list ?_))) (λ _ h20=>wp_skip (za ?_))
  ·
   refine st18.segC 2 [1,7,29,30] [(0,5)] (λ _ _ st21=>?_)
   obtain⟨v23,p23,h24⟩:=bs h19
   refine st21.cNA 5 0 (hR.impl_machine_load1 p23) [1,7] [] (λ G22 _ _ _ st25=>?_)
   refine st25.segA 5 [1,7,9] [(0,5)] (λ _ _ st26=>wpList_nil (za ?_))
   refine st26.sqA [1,7,9,35] [(0,5)] (λ _ _ st27=>?_)
   refine st27.cs rfl h24 (λ _ h28=>?_) (λ _ h29=>wp_skip (za ?_))
   ·
    refine st27.sqA [4,5] [(0,5)] (λ _ _ st30=>wp_ret (ze (ze ?_)))
    have h31:=jo h28 k17
    exact st30.rs2 (s:=0) 5 rfl rfl rfl rfl iI (bxr h31)
   obtain⟨v32,p32,h33⟩:=bs h29
   refine st27.sqB (sP 2 (r:=by exact sc rfl (xE (l:=[.tmp 37,.tmp 38]) st27.ob.sub rfl kN118 (.cons (lendA (sb:=0) st27.ob 5 (tp rfl) rfl iI) (.cons (jm st27.ob.sub (tp rfl)) .nil)) (yw p32) yk)<|segC)) [1,7,10] [(0,5)] (λ _ _ st34=>?_)
   refine st34.sqA [1,7,10,41] [(0,5)] (λ _ _ st35=>?_)
   refine st35.cs rfl h33 (λ _ h36=>wp_seq (wp_region_list ?_)) (λ _ h37=>wp_skip (za ?_))
   ·
    refine st35.segC 2 [42,43] [(0,5)] (λ _ _ st38=>?_)
    obtain⟨v40,p40,h41⟩:=bs h36
    refine st38.cNA 5 0 (XD p40) [] [] (λ G39 _ _ _ st42=>?_)
    refine st42.segA 2 [4,5] [(0,5)] (λ _ _ st43=>wpList_nil (za ?_))
    refine wp_ret (ze ?_)
    have h44:=jo h41 k17
    exact st43.rs2 (s:=0) 5 rfl rfl rfl rfl iI (bxr h44)
   exact fl h37
  exact fl h20
 rintro a17 w17 ⟨b17,rfl,⟨M17,q17_0,q17_1,q17_2,q17_3,q17_4,q17_5,q17_6,st17⟩⟩
 have h45:=jn k17
 refine wp_seq (wp_region_list ?_)
 refine st17.segC 2 [1,7,45,46] [(0,5)] (λ _ _ st46=>?_)
 obtain⟨v48,p48,h49⟩:=bs h45
 refine st46.cNA 5 0 (Zs p48) [1,7] [] (λ G47 _ _ _ st50=>?_)
 refine st50.alA 6 X2 [1,7,47] [0] (λ b52 _ _ _ st52=>?_)
 have st53:=st52.gn
 refine st53.stA 11 6 FldS.id (tp rfl) [1,7] [0] (λ _ _ st55=>?_)
 have st56:=st55.frzX 6 (s:=11) rfl rfl [1,7] rfl [0] rfl
 have st57:=st56.gn
 refine wpList_nil (za (wp_seq ?_))
 refine st57.sqA [1,7,11,50] [(0,5)] (λ _ _ st58=>?_)
 refine st58.cs rfl h49 (λ _ h59=>?_) (λ _ h60=>wp_skip (za (wp_seq ?_)))
 ·
  refine st58.sqA [4,5] [(0,5)] (λ _ _ st61=>wp_ret (ze ?_))
  exact st61.rs2 (s:=0) 5 rfl rfl rfl rfl iI (bxr h59)
 have st62:=st58.rst 0 (by simp) [1,7,11,50] rfl [0] rfl
 obtain⟨v63,p63,h64⟩:=bs h60
 refine st62.drnA (D:=[_,_,_,_,_,_,_,_]) zK 8 [[(1,nS)],[(11,nS)],[(52,1)],[],[(11,nS)],[(55,4)],[(54,3),(56,5)],[],[(51,0),(53,2),(57,6),(58,7)],[(59,8)],[(60,9)]] [1,7,11,51,53,57] [(0,5),(58,0)] (λ _ _ st65=>?_) (hs:=rc rfl rfl (oM rfl (tp rfl))<|rc rfl rfl (zD Spec.fld0 rfl kF71_0 (tp rfl))<|rc rfl rfl (zp rfl kT3 (tp rfl))<|rc rfl rfl (xu (α:=Int) (e:=3) rfl kS26)<|rc rfl rfl (zD Spec.fld2 rfl kF71_2 (tp rfl))<|rc rfl rfl (zp rfl kT26 (tp rfl))<|rc rfl rfl (JB rfl kE26 (tp rfl) (tp rfl) p63)<|rc rfl rfl (xu (α:=GAttr) (e:=189) rfl kS96)<|.nil)
 have st67:=st65.tipW (s:=58) 0 rfl rfl iE [0] rfl
 refine st67.bldW (ow:=(owGModR oAtt)) (parts:=[(0,.tmp 51),(1,.tmp 53),(2,.tmp 57),(3,.const (.bool true)),(5,.tmp 58)]) (ns:=[1,1,1,1,1,1]) (zs:=zpGMod) (x:=(⟨x1,v48.2.kind,v63,true,false,[]⟩:GMod)) 1 [0] rfl rfl rfl kB98 kC98 (by
 intro p hp;simp only[List.mem_cons,List.not_mem_nil,or_false] at hp
 rcases hp with rfl | rfl | rfl | rfl | rfl
 ·
  exact⟨by decide,Rep.len (α:=Str) (OpdR.cells (tp rfl) (λ s y hs=>st67.st.has s y hs))⟩
 ·
  exact⟨by decide,Rep.len (α:=Int) (OpdR.cells (tp rfl) (λ s y hs=>st67.st.has s y hs))⟩
 ·
  exact⟨by decide,Rep.len (α:=List Int) (OpdR.cells (tp rfl) (λ s y hs=>st67.st.has s y hs))⟩
 ·
  exact⟨by decide,rfl⟩
 ·
  exact⟨by decide,Ow.len _ (Xi (st67.st.has 58 _ rfl))⟩) (((owGModR oAtt)).more (owGModR.mk (x:=(⟨x1,v48.2.kind,v63,true,false,[]⟩:GMod)) (OpdR.cells (tp rfl) (λ s y hs=>st67.st.has s y hs)) (OpdR.cells (tp rfl) (λ s y hs=>st67.st.has s y hs)) (OpdR.cells (tp rfl) (λ s y hs=>st67.st.has s y hs)) (OpdR.cells cB (λ s y hs=>st67.st.has s y hs)) ⟨rfl,trivial⟩ (Xi (st67.st.has 58 _ rfl))) (λ b=>(λ hb=>⟨0,by simp,hb⟩))) (by simp) [1,7,11] rfl [0] rfl rfl rfl (λ G66 _ _ st66=>?_)
 have st68:=st66.gs (Gs':=[oneB none,G66,q17_2,q17_3,q17_4,G47,oneB none]) rfl
 refine st68.boxW 4 1 rfl rfl rfl (by simp) (by simp) (by decide) iI [1,7,11] rfl [0] rfl rfl rfl (λ b69 _ _ _ _ st69=>?_)
 have st70:=st69.gn
 refine st70.segA 1 [1,7,11] [(0,5),(12,4)] (λ _ _ st71=>wpList_nil (za ?_))
 refine st71.hdF (s:=0) 5 true (λ _=>((PV.root.box rfl).fld owMachine.f4)) rfl rfl iI [12] rfl (λ g72 A72 _ hA72 st72=>?_)
 refine st72.sqB (sP 4 (r:=by exact sc rfl (xLe rfl kL92 (tp rfl))<|segC)) [1,7,11,13] [(0,5),(12,4)] (λ _ _ st73=>?_)
 have st74:=st73.ncf (s:=0) 5 rfl rfl iI [12] rfl
 refine wp_seq (wp_region_list ?_)
 refine st74.hdF (s:=0) 5 true (λ _=>((PV.root.box rfl).fld owMachine.f4)) rfl rfl iI [12] rfl (λ g75 A75 _ hA75 st75=>?_)
 refine st75.segB 6 (sc rfl (oM rfl (zQ rfl))<|sc rfl (oM rfl (zQ rfl))<|sc rfl (xNc rfl (tp rfl))<|sc rfl (xFa rfl XA (tp rfl))<|sc rfl (xLc (sb:=0) (.head _) rfl rfl rfl kT92 (tp rfl) rfl)<|sc rfl (oM rfl (tp rfl))<|.nil) [1,7,11,13,66,70] [(0,5),(12,4),(71,4)] (λ _ _ st76=>?_)
 have st78:=st76.addL (s:=12) (y:=dis (.pointer (some ⟨b69,0,none⟩))) (st76.st.has 12 _ rfl).1 rfl
 have st79:=st78.tuck (s:=71) 182 4 rfl iI rfl (by decide) [0] rfl
 refine st79.litW (oe:=(Ow.pin (owGModR oAtt))) (opds:=[.tmp 71]) (xs:=[⟨b69,(⟨x1,v48.2.kind,v63,true,false,[]⟩:GMod)⟩]) 2 [4] rfl rfl kI92 kY92 rfl rfl (by decide) rfl (by decide) (rowW_lit (pin_cells (st79.st.has 71 _ rfl) (st79.st.has 182 _ rfl)) (λ b hb=>⟨4,by simp,hb⟩)) (λ q hq=>by
 simp only[List.mem_cons,List.not_mem_nil,or_false] at hq
 subst hq
 exact Ow.len _ (pin_cells (st79.st.has 71 _ rfl) (st79.st.has 182 _ rfl))) (by simp) [1,7,11,12,13,66,70,71] rfl [0] rfl rfl rfl (by decide) (λ G77 _ _ _ st77=>?_)
 have st80:=st77.gs (Gs':=[oneB none,oneB none,G77,q17_3,oneB none,G47,oneB none]) rfl
 have st82:=st80.asA 0 5 (y9 (owMachine.imp4 (imp_lax (b:=b69)))) [72]
 refine st82.mvG (s:=70) (sb:=0) 5 3 ((PV.root.box rfl).fld owMachine.f4) (.head _) rfl (xR rfl rfl) rfl (by simp) (by simp) (by decide) rfl iI [1,7,11,12,13,66,71] rfl [72] rfl rfl rfl rfl (λ _ H83 st83=>?_)
 obtain⟨v84,p84,h85⟩:=bs h64
 refine st83.appP 3 2 rfl rfl kE92 rfl rfl rfl (by simp) (by simp) (by decide) iI iI p84 [1,7,11,12,13,66,71] rfl [0] rfl rfl rfl (λ _ _ _ _ hn81 st81=>?_)
 have st86:=st81.gn
 refine st86.segC 2 [1,7,11,12,13,75] [(0,5),(73,3)] (λ _ _ st87=>?_)
 refine st87.shA 0 73 5 3 (tp rfl) [1,7,11,12,13] [] (λ _ _ st88=>?_)
 have st89:=st88.asA 0 5 (y9 (owMachine.imp4 (imp_strict hn81))) []
 have st90:=st89.gn
 refine wpList_nil (za (wp_seq (wp_seq (wp_region_list ?_))))
 refine st90.segC 3 [1,7,12,13,76,77,78] [(0,5)] (λ _ _ st91=>?_)
 obtain⟨v93,p93,h94⟩:=bs h85
 refine st91.cNA 5 0 (hR.impl_machine_body p93) [1,7,12,13] [] (λ G92 _ _ _ st95=>?_)
 refine st95.segA 1 [1,7,12,13,14] [(0,5)] (λ _ _ st96=>wpList_nil (za ?_))
 refine st96.sqA [1,7,12,13,14,81] [(0,5)] (λ _ _ st97=>?_)
 refine st97.cs rfl h94 (λ _ h98=>wp_seq (wp_region_list ?_)) (λ _ h99=>wp_skip (za (wp_seq (wp_region_list ?_))))
 ·
  obtain⟨v100,p100,h101⟩:=bs h98
  refine st97.segC 3 [14,84] [(0,5)] (λ _ _ st102=>?_)
  refine st102.sfA 0 5 ((((PV.root.box rfl).fld owMachine.f4).rowP (.head _) p100).fld owGModR.f3) (tp rfl) cB [14] [] (λ _ st103=>wpList_nil (za ?_))
  refine st103.sqA [4,5] [(0,5)] (λ _ _ st104=>wp_ret (ze ?_))
  have st105:=st104.asA 0 5 (y9 (owMachine.imp4 (yH (λ _ h=>(.tail _ h))))) []
  exact st105.rs2 (s:=0) 5 rfl rfl rfl rfl iI (bxr h101)
 obtain⟨v106,p106,h107⟩:=bs h99
 refine st97.segC 3 [1,7,13,88] [(0,5)] (λ _ _ st108=>?_)
 refine st108.sfA 0 5 ((((PV.root.box rfl).fld owMachine.f4).rowP (.head _) p106).fld owGModR.f4) (tp rfl) cB [1,7,13] [] (λ _ st109=>wpList_nil (za ?_))
 obtain⟨o110,p110,k110⟩:=bs h107
 refine zj (λ a w=>∃ M1 q110_0 q110_1 q110_2 q110_3 q110_4 q110_5 q110_6,Sx (Frm.chg w0 G) 111 M M1 [oneB q110_0,q110_1,q110_2,q110_3,q110_4,q110_5,oneB q110_6] [(13,dt (v48.1.modules.length:Int))] [(0,5,dnm (oMac ((v48.1.modules.length,b69)::ps)) q110_5 ⟨o110⟩ (.pointer (some ⟨b0,0,none⟩)) [])] a w) ?_ ?_
 ·
  obtain⟨v111,p111,h112⟩:=bs p110
  refine st109.sqB (sP 2 (r:=by exact sc rfl (xE (l:=[.tmp 89,.tmp 90]) st109.ob.sub rfl kN118 (.cons (lendA (sb:=0) st109.ob 5 (tp rfl) rfl iI) (.cons (jm st109.ob.sub (tp rfl)) .nil)) (yw p111) yk)<|segC)) [1,7,13,15] [(0,5)] (λ _ _ st113=>?_)
  refine st113.sqC [1,13,15,97] [(0,5)] (λ _ _ st114=>?_)
  refine st114.cs rfl h112 (λ _ h115=>?_) (λ _ h116=>wp_skip (za ?_))
  ·
   obtain⟨v118,p118,v120,p120,h122⟩:=bsB h115
   refine st114.hdF (s:=0) 5 true (λ _=>((PV.root.box rfl).fld owMachine.f4)) rfl rfl iI [] rfl (λ g117 A117 _ hA117 st117=>?_)
   refine st117.mintP (s:=0) 5 rfl rfl iI (jX (owMachine.impE4 (qu (zx (yh p118).2)))) [] rfl (λ b119 st119=>?_)
   refine st119.drnA (D:=[_,_,_,_,_,_,_,_,_,_,_]) zK 11 [[(0,nS)],[(98,0)],[(99,1)],[(100,2),(0,nS)],[(15,nS)],[(101,3),(102,4)],[(103,5),(0,nS)],[(1,nS)],[(105,7)],[(13,nS)],[(107,9)],[(104,6),(106,8),(108,10)]] [13,104,106,108] [(0,5)] (λ _ _ st123=>?_) (hs:=rc rfl rfl (oM rfl (zQ rfl))<|rc rfl rfl (xNc rfl (tp rfl))<|rc rfl rfl (xFa rfl XA (tp rfl))<|rc rfl rfl (xLc (sb:=0) (.head _) rfl rfl rfl kT92 (tp rfl) rfl)<|rc rfl rfl (oM rfl (tp rfl))<|rc rfl rfl (xIa (g:=g117) rfl kS92 (tp rfl) (tp rfl) rfl (λ h=>hA117 h rfl) p118)<|rc rfl rfl (xLdP (sb:=0) ((PV.root.box rfl).fld owMachine.f4) (.head _) rfl (λ h=>hA117 h rfl) (.head _) (yh p118).2 (Nat.mul_one _) rfl kT95 (tp rfl) rfl)<|rc rfl rfl (oM rfl (tp rfl))<|rc rfl rfl (zH (l:=[.tmp 105]) rfl kN123 (.cons (tp rfl) .nil) (JZ p120))<|rc rfl rfl (oM rfl (tp rfl))<|rc rfl rfl (JD rfl cI (tp rfl))<|.nil)
   obtain⟨v125,p125,v127,p127,h128⟩:=bsB h122
   refine st123.cSF (l:=[.tmp 106,.tmp 108]) 5 (st123.bkP (sb:=0) ((PV.root.box rfl).fld owMachine.f4) (.head _) p125 rfl iI) rfl rfl kN122 (st123.st.has 104 _ rfl) (by simp) (.cons (tp rfl) (.cons (tp rfl) .nil)) (FnS.any (jj p127)) [13] rfl [] rfl rfl (by decide) (λ _ _ _ _ st124=>?_)
   have st129:=st124.gn
   refine wpList_nil ?_
   have st130:=st129.asA 0 5 (y9 (owMachine.imp4 (yH (λ _ h=>(.tail _ h))))) []
   refine za ?_
   cases h128
   exact fx
  cases h116
  exact fx
 rintro a110 w110 ⟨M110,q110_0,q110_1,q110_2,q110_3,q110_4,q110_5,q110_6,st110⟩
 have h131:=k110
 refine st110.sqA [4,5] [(0,5)] (λ _ _ st132=>wp_ret ?_)
 have st133:=st132.asA 0 5 (y9 (owMachine.imp4 (yH (λ _ h=>(.tail _ h))))) []
 exact st133.rs2 (s:=0) 5 rfl rfl rfl rfl iI (bxr h131)
def yC(_R:Rec)(x1:Int)(v243:List GAttr)(s248:Machine×Int):Option ((Machine×Int)⊕(Machine⊕(Machine×Int))):=
if(cmpI .lss s248.2 (v243.length:Int))=true then(Option.bind (α:=Machine) ((atI v243 s248.2).bind λ v254=>
(atI v254.name.l (0:Int)).bind λ v262=>
if(cmpB .neq v262 (UInt8.ofNat 122))=true then((s248.1.modules[x1.toNat]?).bind λ v269=>
(yb v269.x v254.name v254.value).bind λ v271=>
some ({ s248.1 with modules:=(s248.1.modules.set x1.toNat ⟨v271⟩) }))
else(some s248.1)) λ o253=>
(i64 (s248.2+(1:Int))).bind λ v275=>
some (.inl (o253,v275)))
else(some (.inr (.inl s248.1)))
def yi(R:Rec)(x0:Machine)(x1:Int)(x2:Stmt):Option (Machine×Int):=
(atI x0.modules x1).bind λ _v3=>
Option.bind (α:=Machine⊕(Machine×Int)) (if(cmpI .eql x2.kind (0:Int))=true then((R.impl_machine_load1 x0 x2.module).bind λ v15=>
if(cmpI .neq v15.2.2 (0:Int))=true then(some (.inr (v15.1,v15.2.2)))
else((Zz x2.module (⟨[46]⟩:Str)).bind λ v25=>
(zS v15.1 v25.1).bind λ v28=>
if(cmpI .lss v28 (0:Int))=true then(some (.inr (v15.1,(1:Int))))
else((v15.1.modules[x1.toNat]?).bind λ v39=>
(yb v39.x v25.1 (⟨(1:Int),v28⟩:GVal)).bind λ v41=>
some (.inl ({ v15.1 with modules:=(v15.1.modules.set x1.toNat ⟨v41⟩) })))))
else(if(cmpI .eql x2.kind (1:Int))=true then((x0.modules[x1.toNat]?).bind λ v47=>
(yo v47.x).bind λ v48=>
(wm v48 x2.level x2.module).bind λ v49=>
if(decide (v49=(⟨[]⟩:Str)))=true then(some (.inr (x0,(5:Int))))
else((R.impl_machine_load1 x0 v49).bind λ v62=>
if(cmpI .neq v62.2.2 (0:Int))=true then(some (.inr (v62.1,v62.2.2)))
else(Option.bind (α:=GVal×Bool) ((atI v62.1.modules v62.2.1).bind λ _v83=>
(v62.1.modules[v62.2.1.toNat]?).bind λ v87=>
(xB v87.x x2.name).bind λ v88=>
some (v88.1,v88.2)) λ o72=>
Option.bind (α:=(Machine×GVal)⊕(Machine⊕(Machine×Int))) (if(!o72.2)=true then((xQ v49 x2.name).bind λ v171=>
(atI v62.1.modules v62.2.1).bind λ _v175=>
(v62.1.modules[v62.2.1.toNat]?).bind λ v177=>
(gO ((cmpI .eql v177.x.kind (1:Int)||decide (v171=(⟨[]⟩:Str))) == false) (zS v62.1 v171)).bind λ v178=>
(gO (((cmpI .eql v177.x.kind (1:Int)||decide (v171=(⟨[]⟩:Str))) == false)&&(cmpI .lss v178 (0:Int) == true)) (yp v62.1 v171)).bind λ v184=>
if((cmpI .eql v177.x.kind (1:Int)||decide (v171=(⟨[]⟩:Str)))||(cmpI .lss v178 (0:Int)&&cmpI .eql v184.2.kind (0:Int)))=true then(some (.inr (.inr ((if(((cmpI .eql v177.x.kind (1:Int)||decide (v171=(⟨[]⟩:Str))) == false)&&(cmpI .lss v178 (0:Int) == true))=true then v184.1 else v62.1),(2:Int)))))
else((R.impl_machine_load1 (if(((cmpI .eql v177.x.kind (1:Int)||decide (v171=(⟨[]⟩:Str))) == false)&&(cmpI .lss v178 (0:Int) == true))=true then v184.1 else v62.1) v171).bind λ v196=>
if(cmpI .neq v196.2.2 (0:Int))=true then(some (.inr (.inr (v196.1,v196.2.2))))
else(some (.inl (v196.1,(⟨(1:Int),v196.2.1⟩:GVal))))))
else(some (.inl (v62.1,o72.1)))) (Sum.elim (λ b167=>
(b167.1.modules[x1.toNat]?).bind λ v214=>
(yb v214.x x2.name b167.2).bind λ v216=>
some (.inl ({ b167.1 with modules:=(b167.1.modules.set x1.toNat ⟨v216⟩) }))) some))))
else(if(cmpI .eql x2.kind (2:Int))=true then((R.impl_machine_load1 x0 x2.module).bind λ v224=>
if(cmpI .neq v224.2.2 (0:Int))=true then(some (.inr (v224.1,v224.2.2)))
else((atI v224.1.modules v224.2.1).bind λ _v235=>
(v224.1.modules[v224.2.1.toNat]?).bind λ v237=>
(appO 32 [] v237.x.attrs).bind λ v243=>
zM (λ s248=>yC R x1 v243 s248) (v224.1,(0:Int))))
else(if(cmpI .eql x2.kind (3:Int))=true then((x0.modules[x1.toNat]?).bind λ v285=>
(yb v285.x x2.name (⟨(0:Int),x2.value⟩:GVal)).bind λ v287=>
some (.inl ({ x0 with modules:=(x0.modules.set x1.toNat ⟨v287⟩) })))
else(if(cmpI .eql x2.kind (4:Int))=true then((x0.modules[x1.toNat]?).bind λ v293=>
(xB v293.x x2.name).bind λ v294=>
if(!v294.2)=true then(some (.inr (x0,(3:Int))))
else(if(cmpI .eql v294.1.kind (1:Int))=true then((appO 8 x0.out ([(-1:Int)]:List Int)).bind λ v320=>
some (.inl ({ x0 with out:=v320 })))
else((appO 8 x0.out ([v294.1.num]:List Int)).bind λ v336=>
some (.inl ({ x0 with out:=v336 })))))
else(if(cmpI .eql x2.kind (5:Int))=true then(some (.inr (x0,(4:Int))))
else(some (.inl x0)))))))) (Sum.elim (λ b8=>
some (b8,(0:Int))) some)
theorem zae{R:Rec}(hR:R.ok){ps:List (Nat×Nat)}{x0:Machine}{x1:Int}{x2:Stmt}{r:Machine×Int}(h:yi R x0 x1 x2=some r):FnS prog 163 (oMac ps) ⟨x0⟩ [dt x1,dt x2] ⟨r.1⟩ (.frz (dt r.2)):=by
 unfold yi at h
 refine fnSB (fn:=f163) 1 7 func163 rfl (oD rfl) rfl (λ M G w0 b0 _ st0=>?_)
 refine st0.sqA [1,5] [(0,1)] (λ _ _ st1=>?_)
 obtain⟨v3,p3,h5⟩:=bs h
 refine st1.hdF (s:=0) 1 true (λ _=>((PV.root.box rfl).fld owMachine.f4)) rfl rfl iI [] rfl (λ g2 A2 _ hA2 st2=>?_)
 refine st2.mintP (s:=0) 1 rfl rfl iI (jX (owMachine.impE4 (qu (zx (yh p3).2)))) [] rfl (λ b4 st4=>?_)
 refine st4.sqB (sP 5 (r:=by exact sc rfl (xIa (g:=g2) rfl kS92 (tp rfl) (tp rfl) rfl (λ h=>hA2 h rfl) p3)<|sc rfl (xLdP (sb:=0) ((PV.root.box rfl).fld owMachine.f4) (.head _) rfl (λ h=>hA2 h rfl) (.head _) (yh p3).2 (Nat.mul_one _) rfl kT95 (tp rfl) rfl)<|segC)) [5,7] [(0,1)] (λ _ _ st6=>?_)
 have st7:=st6.ncf (s:=0) 1 rfl rfl iI [] rfl
 obtain⟨o8,p8,k8⟩:=bs h5
 refine zj (λ a w=>∃ b8,o8=.inl b8/\(∃ M1 q8_0 q8_1 q8_2 q8_3 q8_4 q8_5 q8_6,Sx (Frm.chg w0 G) 236 M M1 [oneB q8_0,q8_1,q8_2,q8_3,oneB q8_4,oneB q8_5,oneB q8_6] [] [(0,1,dnm (oMac ((x1.toNat,b4)::ps)) q8_1 ⟨b8⟩ (.pointer (some ⟨b0,0,none⟩)) [])] a w)) ?_ ?_
 ·
  refine st7.sqA [5,7,36] [(0,1)] (λ _ _ st9=>wp_block ?_)
  refine st9.sqA [5,7,36,37] [(0,1)] (λ _ _ st10=>?_)
  refine st10.cs rfl p8 (λ _ h11=>wp_seq (wp_seq (wp_region_list ?_))) (λ _ h12=>?_)
  ·
   refine st10.segC 3 [5,7,40,42] [(0,1)] (λ _ _ st13=>?_)
   obtain⟨v15,p15,h16⟩:=bs h11
   refine st13.cNA 1 0 (hR.impl_machine_load1 p15) [5,7] [] (λ G14 _ _ _ st17=>?_)
   refine st17.segA 5 [5,7,9] [(0,1)] (λ _ _ st18=>wpList_nil (za ?_))
   refine st18.sqA [5,7,9,47] [(0,1)] (λ _ _ st19=>?_)
   refine st19.cs rfl h16 (λ _ h20=>?_) (λ _ h21=>wp_skip (za ?_))
   ·
    refine st19.sqA [6] [(0,1)] (λ _ _ st22=>wp_ret (ze (zq (ze ?_))))
    have st23:=st22.asA 0 1 (y9 (owMachine.imp4 (yH (λ _ h=>(.tail _ h))))) []
    have h24:=jo h20 k8
    exact st23.rsF (s:=0) 1 rfl rfl rfl iI (bxr h24) yk
   obtain⟨v25,p25,h26⟩:=bsW h21 strings_Cut_w
   refine st19.sqA [7,10] [(0,1)] (λ _ _ st27=>?_)
   obtain⟨v28,p28,h29⟩:=bs h26
   refine st27.sqB (sP 2 (r:=by exact sc rfl (xE (l:=[.tmp 56,.tmp 57]) st27.ob.sub rfl kN118 (.cons (lendA (sb:=0) st27.ob 1 (tp rfl) rfl iI) (.cons (jm st27.ob.sub (tp rfl)) .nil)) (yw p28) yk)<|segC)) [7,10,13] [(0,1)] (λ _ _ st30=>wp_seq ?_)
   refine st30.sqA [7,10,13,60] [(0,1)] (λ _ _ st31=>?_)
   refine st31.cs rfl h29 (λ _ h32=>?_) (λ _ h33=>wp_skip (za (wp_region_list ?_)))
   ·
    refine st31.sqA [6] [(0,1)] (λ _ _ st34=>wp_ret (ze (zq (ze ?_))))
    have st35:=st34.asA 0 1 (y9 (owMachine.imp4 (yH (λ _ h=>(.tail _ h))))) []
    have h36:=jo h32 k8
    exact st35.rsF (s:=0) 1 rfl rfl rfl iI (bxr h36) yk
   refine st31.segB 4 (sP 3 (r:=by exact sc rfl (JD rfl cI (tp rfl))<|.nil)) [61,62,64] [(0,1)] (λ _ _ st37=>?_)
   obtain⟨v39,p39,v41,p41,h42⟩:=bsB h33
   refine st37.cSF (l:=[.tmp 62,.tmp 64]) 1 (st37.bkP (sb:=0) ((PV.root.box rfl).fld owMachine.f4) (.head _) p39 rfl iI) rfl rfl kN122 (st37.st.has 61 _ rfl) (by simp) (.cons (tp rfl) (.cons (tp rfl) .nil)) (FnS.any (jj p41)) [] rfl [] rfl rfl (by decide) (λ _ _ _ _ st38=>?_)
   have st43:=st38.gn
   refine wpList_nil (zf (za ?_))
   exact fl h42
  refine st10.sqA [5,7,36,66] [(0,1)] (λ _ _ st44=>?_)
  refine st44.cs rfl h12 (λ _ h45=>wp_seq ?_) (λ _ h46=>?_)
  ·
   obtain⟨v47,p47,v48,p48,v49,p49,h52⟩:=bsC h45
   refine st44.drA (D:=[_,_,_,_,_,_,_,_]) zK [[(7,nS)],[(68,0),(0,nS)],[(5,nS)],[(70,2)],[(5,nS)],[(72,4)],[(69,1),(71,3),(73,5)],[(74,6)]] [5,7,14] [(0,1)] (λ _ _ st53=>?_) (hs:=rc rfl rfl (oM rfl (tp rfl))<|rc rfl rfl (xE (l:=[.tmp 68]) st44.ob.sub rfl kN107 (.cons (lendQ (sb:=0) st44.ob 1 (((PV.root.box rfl).fld owMachine.f4).rowP (.head _) p47) (tp rfl) rfl iI) .nil) (ZZ p48) Xr)<|rc rfl rfl (zD Stmt.fld2 rfl kF74_2 (tp rfl))<|rc rfl rfl (zp rfl kT3 (tp rfl))<|rc rfl rfl (zD Stmt.fld1 rfl kF74_1 (tp rfl))<|rc rfl rfl (zp rfl kT9 (tp rfl))<|rc rfl rfl (zH (l:=[.tmp 69,.tmp 71,.tmp 73]) rfl kN106 (.cons (tp rfl) (.cons (tp rfl) (.cons (tp rfl) .nil))) (XB p49))<|rc rfl rfl (oA rfl (tp rfl))<|.nil)
   refine za (wp_seq ?_)
   refine st53.sqA [5,7,14,76] [(0,1)] (λ _ _ st54=>?_)
   refine st54.cs rfl h52 (λ _ h55=>?_) (λ _ h56=>wp_skip (za (wp_seq (wp_region_list ?_))))
   ·
    refine st54.sqA [6] [(0,1)] (λ _ _ st57=>wp_ret (ze (zq (ze ?_))))
    have st58:=st57.asA 0 1 (y9 (owMachine.imp4 (yH (λ _ h=>(.tail _ h))))) []
    have h59:=jo h55 k8
    exact st58.rsF (s:=0) 1 rfl rfl rfl iI (bxr h59) yk
   refine st54.segC 2 [5,7,14,78,79] [(0,1)] (λ _ _ st60=>?_)
   obtain⟨v62,p62,h63⟩:=bs h56
   refine st60.cNA 1 0 (hR.impl_machine_load1 p62) [5,7,14] [] (λ G61 _ _ _ st64=>?_)
   refine st64.segA 5 [5,7,14,15,16] [(0,1)] (λ _ _ st65=>wpList_nil (za (wp_seq ?_)))
   refine st65.sqA [5,7,14,15,16,84] [(0,1)] (λ _ _ st66=>?_)
   refine st66.cs rfl h63 (λ _ h67=>?_) (λ _ h68=>wp_skip (za ?_))
   ·
    refine st66.sqA [6] [(0,1)] (λ _ _ st69=>wp_ret (ze (zq (ze ?_))))
    have st70:=st69.asA 0 1 (y9 (owMachine.imp4 (yH (λ _ h=>(.tail _ h))))) []
    have h71:=jo h67 k8
    exact st70.rsF (s:=0) 1 rfl rfl rfl iI (bxr h71) yk
   obtain⟨o72,p72,k72⟩:=bs h68
   refine zj (λ a w=>∃ M1 q72_0 q72_1 q72_2 q72_3 q72_4 q72_5 q72_6,Sx (Frm.chg w0 G) 236 M M1 [oneB q72_0,q72_1,q72_2,q72_3,oneB q72_4,oneB q72_5,oneB q72_6] [(5,dptr x2),(14,dt v49),(15,dt v62.2.1),(18,dt o72.2),(7,dis (.pointer (some ⟨b4,0,none⟩)))] [(17,4,dbox q72_4 0 o72.1),(0,1,dnm (oMac ((x1.toNat,b4)::ps)) q72_1 ⟨v62.1⟩ (.pointer (some ⟨b0,0,none⟩)) [])] a w) ?_ ?_
   ·
    refine st66.opn (s:=5) rfl (λ b73 o73 c73 st73=>?_)
    refine st73.held (λ w=>CellsAt w b73 o73 c73) zK (λ _ st74=>?_)
    refine st74.tN 0 0 (st74.pkZ 5) (λ _ st75=>?_)
    refine st75.tk (i:=1) rfl rfl (by decide +kernel) (by decide +kernel) (by decide +kernel) (λ _ _ _ h=>h) (st75.pkS (s:=5) rfl) (yNc rfl (st75.st.has 87 _ rfl)) (λ _ st76=>?_)
    refine st76.tk (i:=2) rfl rfl (by decide +kernel) (by decide +kernel) (by decide +kernel) (λ _ _ _ h=>h) (st76.pkS (s:=5) rfl) (yFa rfl XA (st76.st.has 88 _ rfl)) (λ _ st77=>?_)
    refine st77.tM 4 15 (st77.pkZ 5) (λ _ st78=>?_)
    refine st78.tA 7 5 (λ _ st79=>?_) (ht:=kF74_3)
    refine st79.tF 8 5 94 Stmt.fld3 (λ _ st80=>?_)
    obtain⟨v83,p83,v87,p87,v88,p88,h101⟩:=bsC p72
    refine aK2 3 13 ?_ ?_
    ·
     refine st80.hdF (s:=0) 1 true (λ _=>((PV.root.box rfl).fld owMachine.f4)) rfl rfl iI [] rfl (λ g102 A102 _ hA102 st102=>?_)
     refine st102.segC 1 [5,7,14,15,90,91,95] [(0,1)] (λ _ _ st103=>?_)
     refine aHN (st103.pkZ 5) ?_
     refine st103.tkI (i:=5) (s2:=90) (g:=g102) rfl rfl (by decide +kernel) (by decide +kernel) (by decide +kernel) (λ _ _ _ _ h=>h) (st103.pkZ 5) rfl kS92 rfl rfl (tp rfl) rfl (λ h=>hA102 h rfl) p83 (λ _ st104=>?_)
     refine aK2 6 13 ?_ ?_
     ·
      refine st104.mintP (s:=0) 1 rfl rfl iI (jX (owMachine.impE4 (qu (zx (yh p83).2)))) [] rfl (λ b105 st105=>?_)
      refine st105.segB 1 (sc rfl (xLdP (sb:=0) ((PV.root.box rfl).fld owMachine.f4) (.head _) rfl (λ h=>hA102 h rfl) (.head _) (yh p83).2 (Nat.mul_one _) rfl kT95 (tp rfl) rfl)<|.nil) [5,7,14,15,93,95] [(0,1)] (λ _ _ st106=>?_)
      refine aHN (st106.pkZ 5) ?_
      refine aK2 9 13 ?_ ?_
      ·
       refine st106.segB 1 (sc rfl (xE (l:=[.tmp 93,.tmp 95]) st106.ob.sub rfl kN203 (.cons (lendQ (sb:=0) st106.ob 1 (((PV.root.box rfl).fld owMachine.f4).rowP (.head _) p87) (tp rfl) rfl iI) (.cons (jm st106.ob.sub (tp rfl)) .nil)) (ji p88) (Wh Jb qI))<|.nil) [5,7,14,15,96] [(0,1)] (λ _ _ st107=>?_)
       refine aHN (st107.pkZ 5) ?_
       refine st107.tM 10 96 (st107.pkZ 5) (λ _ st108=>?_)
       refine st108.tkE (i:=11) (s2:=86) rfl rfl (by decide +kernel) (by decide +kernel) (by decide +kernel) (λ _ _ _ _ h=>h) (st108.pkZ 5) rfl rfl rfl rfl (λ _ st109=>?_)
       refine st109.tkE (i:=12) (s2:=86) rfl rfl (by decide +kernel) (by decide +kernel) (by decide +kernel) (λ _ _ _ _ h=>h) (st109.pkZ 5) rfl rfl rfl rfl (λ _ st110=>aK1 13 ?_)
       refine st110.alA 4 Qq [5,7,14,15,97,98] [0] (λ b112 _ _ _ st112=>?_)
       have st113:=st112.gn
       refine aHN (st113.pkZ 5) ?_
       refine aK1 14 ?_
       refine st113.stA 17 4 FldS.id (tp rfl) [5,7,14,15,98] [0] (λ _ _ st115=>?_)
       refine aHN (st115.pkZ 5) ?_
       refine aK1 15 ?_
       refine st115.segA 1 [5,7,14,15,18] [(0,1),(17,4)] (λ _ _ st116=>?_)
       refine aHN (st116.pkZ 5) ?_
       refine aK0 ?_
       have st117:=st116.ncf (s:=0) 1 rfl rfl iI [17] rfl
       have st118:=st117.clo (s:=5) rfl
       have st119:=st118.asA 0 1 (y9 (owMachine.imp4 (yH (λ _ h=>(.tail _ h))))) [17]
       refine za ?_
       cases h101
       exact fx
      ·
       refine st106.alA 4 Qq [5,7,14,15,93,95] [0] (λ b121 _ _ _ st121=>?_)
       have st122:=st121.gn
       refine aHN (st122.pkZ 5) ?_
       refine aK1 9 ?_
       refine st122.segB 1 (sc rfl (xE (l:=[.tmp 93,.tmp 95]) st122.ob.sub rfl kN203 (.cons (lendQ (sb:=0) st122.ob 1 (((PV.root.box rfl).fld owMachine.f4).rowP (.head _) p87) (tp rfl) rfl iI) (.cons (jm st122.ob.sub (tp rfl)) .nil)) (ji p88) (Wh Jb qI))<|.nil) [5,7,14,15,96] [(0,1),(17,4)] (λ _ _ st123=>?_)
       refine aHN (st123.pkZ 5) ?_
       refine st123.tM 10 96 (st123.pkZ 5) (λ _ st124=>?_)
       refine st124.tkE (i:=11) (s2:=86) rfl rfl (by decide +kernel) (by decide +kernel) (by decide +kernel) (λ _ _ _ _ h=>h) (st124.pkZ 5) rfl rfl rfl rfl (λ _ st125=>?_)
       refine st125.tkE (i:=12) (s2:=86) rfl rfl (by decide +kernel) (by decide +kernel) (by decide +kernel) (λ _ _ _ _ h=>h) (st125.pkZ 5) rfl rfl rfl rfl (λ _ st126=>aK1 14 ?_)
       refine st126.stA 17 4 FldS.id (tp rfl) [5,7,14,15,98] [0] (λ _ _ st128=>?_)
       refine aHN (st128.pkZ 5) ?_
       refine aK1 15 ?_
       refine st128.segA 1 [5,7,14,15,18] [(0,1),(17,4)] (λ _ _ st129=>?_)
       refine aHN (st129.pkZ 5) ?_
       refine aK0 ?_
       have st130:=st129.ncf (s:=0) 1 rfl rfl iI [17] rfl
       have st131:=st130.clo (s:=5) rfl
       have st132:=st131.asA 0 1 (y9 (owMachine.imp4 (yH (λ _ h=>(.tail _ h))))) [17]
       refine za ?_
       cases h101
       exact fx
     ·
      refine st104.alA 4 Qq [5,7,14,15,92,95] [0] (λ b134 _ _ _ st134=>?_)
      have st135:=st134.gn
      refine aHN (st135.pkZ 5) ?_
      refine aK1 6 ?_
      refine st135.mintP (s:=0) 1 rfl rfl iI (jX (owMachine.impE4 (qu (zx (yh p83).2)))) [17] rfl (λ b136 st136=>?_)
      refine st136.segB 1 (sc rfl (xLdP (sb:=0) ((PV.root.box rfl).fld owMachine.f4) (.head _) rfl (λ h=>hA102 h rfl) (.head _) (yh p83).2 (Nat.mul_one _) rfl kT95 (tp rfl) rfl)<|.nil) [5,7,14,15,93,95] [(0,1),(17,4)] (λ _ _ st137=>?_)
      refine aHN (st137.pkZ 5) ?_
      refine aK1 9 ?_
      refine st137.segB 1 (sc rfl (xE (l:=[.tmp 93,.tmp 95]) st137.ob.sub rfl kN203 (.cons (lendQ (sb:=0) st137.ob 1 (((PV.root.box rfl).fld owMachine.f4).rowP (.head _) p87) (tp rfl) rfl iI) (.cons (jm st137.ob.sub (tp rfl)) .nil)) (ji p88) (Wh Jb qI))<|.nil) [5,7,14,15,96] [(0,1),(17,4)] (λ _ _ st138=>?_)
      refine aHN (st138.pkZ 5) ?_
      refine st138.tM 10 96 (st138.pkZ 5) (λ _ st139=>?_)
      refine st139.tkE (i:=11) (s2:=86) rfl rfl (by decide +kernel) (by decide +kernel) (by decide +kernel) (λ _ _ _ _ h=>h) (st139.pkZ 5) rfl rfl rfl rfl (λ _ st140=>?_)
      refine st140.tkE (i:=12) (s2:=86) rfl rfl (by decide +kernel) (by decide +kernel) (by decide +kernel) (λ _ _ _ _ h=>h) (st140.pkZ 5) rfl rfl rfl rfl (λ _ st141=>aK1 14 ?_)
      refine st141.stA 17 4 FldS.id (tp rfl) [5,7,14,15,98] [0] (λ _ _ st143=>?_)
      refine aHN (st143.pkZ 5) ?_
      refine aK1 15 ?_
      refine st143.segA 1 [5,7,14,15,18] [(0,1),(17,4)] (λ _ _ st144=>?_)
      refine aHN (st144.pkZ 5) ?_
      refine aK0 ?_
      have st145:=st144.ncf (s:=0) 1 rfl rfl iI [17] rfl
      have st146:=st145.clo (s:=5) rfl
      have st147:=st146.asA 0 1 (y9 (owMachine.imp4 (yH (λ _ h=>(.tail _ h))))) [17]
      refine za ?_
      cases h101
      exact fx
    ·
     refine st80.alA 4 Qq [5,7,14,15,89,91,95] [0] (λ b149 _ _ _ st149=>?_)
     have st150:=st149.gn
     refine aHN (st150.pkZ 5) ?_
     refine aK1 3 ?_
     refine st150.hdF (s:=0) 1 true (λ _=>((PV.root.box rfl).fld owMachine.f4)) rfl rfl iI [17] rfl (λ g151 A151 _ hA151 st151=>?_)
     refine st151.segC 1 [5,7,14,15,90,91,95] [(0,1),(17,4)] (λ _ _ st152=>?_)
     refine aHN (st152.pkZ 5) ?_
     refine st152.tkI (i:=5) (s2:=90) (g:=g151) rfl rfl (by decide +kernel) (by decide +kernel) (by decide +kernel) (λ _ _ _ _ h=>h) (st152.pkZ 5) rfl kS92 rfl rfl (tp rfl) rfl (λ h=>hA151 h rfl) p83 (λ _ st153=>aK1 6 ?_)
     refine st153.mintP (s:=0) 1 rfl rfl iI (jX (owMachine.impE4 (qu (zx (yh p83).2)))) [17] rfl (λ b154 st154=>?_)
     refine st154.segB 1 (sc rfl (xLdP (sb:=0) ((PV.root.box rfl).fld owMachine.f4) (.head _) rfl (λ h=>hA151 h rfl) (.head _) (yh p83).2 (Nat.mul_one _) rfl kT95 (tp rfl) rfl)<|.nil) [5,7,14,15,93,95] [(0,1),(17,4)] (λ _ _ st155=>?_)
     refine aHN (st155.pkZ 5) ?_
     refine aK1 9 ?_
     refine st155.segB 1 (sc rfl (xE (l:=[.tmp 93,.tmp 95]) st155.ob.sub rfl kN203 (.cons (lendQ (sb:=0) st155.ob 1 (((PV.root.box rfl).fld owMachine.f4).rowP (.head _) p87) (tp rfl) rfl iI) (.cons (jm st155.ob.sub (tp rfl)) .nil)) (ji p88) (Wh Jb qI))<|.nil) [5,7,14,15,96] [(0,1),(17,4)] (λ _ _ st156=>?_)
     refine aHN (st156.pkZ 5) ?_
     refine st156.tM 10 96 (st156.pkZ 5) (λ _ st157=>?_)
     refine st157.tkE (i:=11) (s2:=86) rfl rfl (by decide +kernel) (by decide +kernel) (by decide +kernel) (λ _ _ _ _ h=>h) (st157.pkZ 5) rfl rfl rfl rfl (λ _ st158=>?_)
     refine st158.tkE (i:=12) (s2:=86) rfl rfl (by decide +kernel) (by decide +kernel) (by decide +kernel) (λ _ _ _ _ h=>h) (st158.pkZ 5) rfl rfl rfl rfl (λ _ st159=>aK1 14 ?_)
     refine st159.stA 17 4 FldS.id (tp rfl) [5,7,14,15,98] [0] (λ _ _ st161=>?_)
     refine aHN (st161.pkZ 5) ?_
     refine aK1 15 ?_
     refine st161.segA 1 [5,7,14,15,18] [(0,1),(17,4)] (λ _ _ st162=>?_)
     refine aHN (st162.pkZ 5) ?_
     refine aK0 ?_
     have st163:=st162.ncf (s:=0) 1 rfl rfl iI [17] rfl
     have st164:=st163.clo (s:=5) rfl
     have st165:=st164.asA 0 1 (y9 (owMachine.imp4 (yH (λ _ h=>(.tail _ h))))) [17]
     refine za ?_
     cases h101
     exact fx
   rintro a72 w72 ⟨M72,q72_0,q72_1,q72_2,q72_3,q72_4,q72_5,q72_6,st72⟩
   have h166:=k72
   obtain⟨o167,p167,k167⟩:=bs h166
   refine zj (λ a w=>∃ b167,o167=.inl b167/\(∃ M1 q167_0 q167_1 q167_2 q167_3 q167_4 q167_5 q167_6,Sx (Frm.chg w0 G) 236 M M1 [oneB q167_0,q167_1,q167_2,q167_3,oneB q167_4,oneB q167_5,oneB q167_6] [(5,dptr x2),(7,dis (.pointer (some ⟨b4,0,none⟩)))] [(17,4,dbox q167_4 0 b167.2),(0,1,dnm (oMac ((x1.toNat,b4)::ps)) q167_1 ⟨b167.1⟩ (.pointer (some ⟨b0,0,none⟩)) [])] a w)) ?_ ?_
   ·
    refine st72.sqA [5,7,14,15,100] [(0,1),(17,4)] (λ _ _ st168=>?_)
    refine st168.cs rfl p167 (λ _ h169=>?_) (λ _ h170=>wp_skip (za ?_))
    ·
     obtain⟨v171,p171,h172⟩:=bsW h169 Z9
     refine st168.sqA [5,7,15,19] [(0,1),(17,4)] (λ _ _ st173=>wp_seq (wp_seq (wp_region_list ?_)))
     obtain⟨v175,p175,v177,p177,v178,p178,h181⟩:=bsC h172
     refine st173.hdF (s:=0) 1 true (λ _=>((PV.root.box rfl).fld owMachine.f4)) rfl rfl iI [17] rfl (λ g174 A174 _ hA174 st174=>?_)
     refine st174.mintP (s:=0) 1 rfl rfl iI (jX (owMachine.impE4 (qu (zx (yh p175).2)))) [17] rfl (λ b176 st176=>?_)
     refine st176.segB 23 (sc rfl (oM rfl (zQ rfl))<|sc rfl (xNc rfl (tp rfl))<|sc rfl (xFa rfl XA (tp rfl))<|sc rfl (xLc (sb:=0) (.head _) rfl rfl rfl kT92 (tp rfl) rfl)<|sc rfl (oM rfl (tp rfl))<|sc rfl (xIa (g:=g174) rfl kS92 (tp rfl) (tp rfl) rfl (λ h=>hA174 h rfl) p175)<|sc rfl (xLdP (sb:=0) ((PV.root.box rfl).fld owMachine.f4) (.head _) rfl (λ h=>hA174 h rfl) (.head _) (yh p175).2 (Nat.mul_one _) rfl kT95 (tp rfl) rfl)<|sc rfl (xNc rfl (tp rfl))<|sc rfl (xFa rfl kF98_1 (tp rfl))<|sc rfl (xLf (sb:=0) ((((PV.root.box rfl).fld owMachine.f4).rowP (.head _) p177).fld owGModR.f1) rfl kT3 (tp rfl) rfl)<|sc rfl (oCI rfl (tp rfl) cI)<|sc rfl (oM rfl (tp rfl))<|sg rfl rfl (λ hg=>oM rfl (tp rfl))<|sg rfl rfl (λ hg=>qL rfl (zm hg rfl) (zN (by decide)))<|sc rfl (Zq rfl (tp rfl) (zb rfl))<|sc rfl (oM rfl (tp rfl))<|sg rfl rfl (λ hg=>oM rfl (zQ rfl))<|sg rfl rfl (λ hg=>oM rfl (tp rfl))<|sg rfl rfl (λ hg=>xE (l:=[.tmp 121,.tmp 122]) st176.ob.sub rfl kN118 (.cons (lendA (sb:=0) st176.ob 1 (zm hg rfl) rfl iI) (.cons (jm st176.ob.sub (zm hg rfl)) .nil)) (yw (gh hg p178)) yk)<|sg rfl rfl (λ hg=>oCI rfl (zm hg rfl) cI)<|sg rfl rfl (λ hg=>oM rfl (zm hg rfl))<|sgg rfl rfl (λ hg=>oM rfl (zQ rfl))<|sgg rfl rfl (λ hg=>oM rfl (tp rfl))<|.nil) [5,7,19,120,125,126,127] [(0,1),(17,4)] (λ _ _ st182=>?_)
     obtain⟨v184,p184,h185⟩:=bs h181
     refine st182.cSFhB (sb:=0) (l:=[.tmp 127]) 1 rfl iI rfl rfl rfl kN120 (λ hg=>(st182.st.has 126 _ rfl).1 hg) (by simp) (λ hg=>(.cons (zm hg rfl) .nil)) (λ hg=>Zs (gh hg p184)) [5,7,19,120,125] rfl [17] rfl rfl (by decide) (λ _ _ _ _ st183=>?_)
     have st186:=st183.gn
     refine st186.segB 4 (sgg rfl rfl (λ hg=>zaG Spec.fld0 rfl rfl kG71_0 (zm hg rfl))<|sgg rfl rfl (λ hg=>oCI rfl (zm hg rfl) cI)<|sg rfl rfl (λ hg=>yU rfl (zm hg rfl) (X0 hg rfl))<|segC) [5,7,19,132] [(0,1),(17,4)] (λ _ _ st187=>wpList_nil (za ?_))
     refine st187.cs rfl h185 (λ _ h188=>?_) (λ _ h189=>wp_skip (za (wp_seq (wp_region_list ?_))))
     ·
      refine st187.sqA [6] [(0,1)] (λ _ _ st190=>wp_ret (ze (ze (zq (ze ?_)))))
      have st191:=st190.asA 0 1 (y9 (owMachine.imp4 (yH (λ _ h=>(.tail _ (.tail _ h)))))) []
      have h192:=jo h188 k167
      have h193:=jo h192 k8
      exact st191.rsF (s:=0) 1 rfl rfl rfl iI (bxr h193) yk
     refine st187.segC 2 [5,7,134,135] [(0,1),(17,4)] (λ _ _ st194=>?_)
     obtain⟨v196,p196,h197⟩:=bs h189
     refine st194.cNA 1 0 (hR.impl_machine_load1 p196) [5,7] [17] (λ G195 _ _ _ st198=>?_)
     refine st198.segA 5 [5,7,20,21] [(0,1),(17,4)] (λ _ _ st199=>wpList_nil (za (wp_seq ?_)))
     refine st199.sqA [5,7,20,21,140] [(0,1),(17,4)] (λ _ _ st200=>?_)
     refine st200.cs rfl h197 (λ _ h201=>?_) (λ _ h202=>wp_skip (za (wp_region_list ?_)))
     ·
      refine st200.sqA [6] [(0,1)] (λ _ _ st203=>wp_ret (ze (ze (zq (ze ?_)))))
      have st204:=st203.asA 0 1 (y9 (owMachine.imp4 (yH (λ _ h=>(.tail _ (.tail _ h)))))) []
      have h205:=jo h201 k167
      have h206:=jo h205 k8
      exact st204.rsF (s:=0) 1 rfl rfl rfl iI (bxr h206) yk
     refine st200.segB 2 (sP 1 (r:=by exact sc rfl (JD rfl cI (tp rfl))<|.nil)) [5,7,143] [(0,1),(17,4)] (λ _ _ st207=>?_)
     refine st207.stA 17 4 FldS.id (tp rfl) [5,7] [0] (λ _ _ st209=>wpList_nil ?_)
     have st210:=st209.asA 0 1 (y9 (owMachine.imp4 (yH (λ _ h=>(.tail _ h))))) [17]
     refine za ?_
     exact fl h202
    exact fl h170
   rintro a167 w167 ⟨b167,rfl,⟨M167,q167_0,q167_1,q167_2,q167_3,q167_4,q167_5,q167_6,st167⟩⟩
   have h211:=jn k167
   refine wp_region_list ?_
   refine st167.segC 4 [144,146,147] [(0,1)] (λ _ _ st212=>?_)
   obtain⟨v214,p214,v216,p216,h217⟩:=bsB h211
   refine st212.cSF (l:=[.tmp 146,.tmp 147]) 1 (st212.bkP (sb:=0) ((PV.root.box rfl).fld owMachine.f4) (.head _) p214 rfl iI) rfl rfl kN122 (st212.st.has 144 _ rfl) (by simp) (.cons (tp rfl) (.cons (tp rfl) .nil)) (FnS.any (jj p216)) [] rfl [] rfl rfl (by decide) (λ _ _ _ _ st213=>?_)
   have st218:=st213.gn
   refine wpList_nil (zf (za ?_))
   exact fl h217
  refine st44.sqA [5,7,36,149] [(0,1)] (λ _ _ st219=>?_)
  refine st219.cs rfl h46 (λ _ h220=>wp_seq (wp_region_list ?_)) (λ _ h221=>?_)
  ·
   refine st219.segC 3 [7,152,154] [(0,1)] (λ _ _ st222=>?_)
   obtain⟨v224,p224,h225⟩:=bs h220
   refine st222.cNA 1 0 (hR.impl_machine_load1 p224) [7] [] (λ G223 _ _ _ st226=>?_)
   refine st226.segA 5 [7,22,23] [(0,1)] (λ _ _ st227=>wpList_nil (za (wp_seq ?_)))
   refine st227.sqA [7,22,23,159] [(0,1)] (λ _ _ st228=>?_)
   refine st228.cs rfl h225 (λ _ h229=>?_) (λ _ h230=>wp_skip (za (wp_seq (wp_region_list ?_))))
   ·
    refine st228.sqA [6] [(0,1)] (λ _ _ st231=>wp_ret (ze (zq (ze ?_))))
    have st232:=st231.asA 0 1 (y9 (owMachine.imp4 (yH (λ _ h=>(.tail _ h))))) []
    have h233:=jo h229 k8
    exact st232.rsF (s:=0) 1 rfl rfl rfl iI (bxr h233) yk
   obtain⟨v235,p235,v237,p237,h240⟩:=bsB h230
   refine st228.hdF (s:=0) 1 true (λ _=>((PV.root.box rfl).fld owMachine.f4)) rfl rfl iI [] rfl (λ g234 A234 _ hA234 st234=>?_)
   refine st234.mintP (s:=0) 1 rfl rfl iI (jX (owMachine.impE4 (qu (zx (yh p235).2)))) [] rfl (λ b236 st236=>?_)
   refine st236.hdA 0 1 ((((PV.root.box rfl).fld owMachine.f4).rowP (.head _) p237).fld owGModR.f5) [] (λ g238 A238 _ hA238 st238=>?_)
   refine st238.segB 11 (sc rfl (xu (α:=GAttr) (e:=189) rfl kS96)<|sP 5 (r:=by exact sc rfl (xIa (g:=g234) rfl kS92 (tp rfl) (tp rfl) rfl (λ h=>hA234 h rfl) p235)<|sc rfl (xLdP (sb:=0) ((PV.root.box rfl).fld owMachine.f4) (.tail _ (.head _)) rfl (λ h=>hA234 h rfl) (.head _) (yh p235).2 (Nat.mul_one _) rfl kT95 (tp rfl) rfl)<|segC)) [7,171] [(0,1),(161,0)] (λ _ _ st241=>?_)
   obtain⟨v243,p243,h244⟩:=bs h240
   refine st241.appH 0 rfl rfl kE96 rfl rfl (st241.rowH (sb:=0) ((((PV.root.box rfl).fld owMachine.f4).rowP (.head _) p237).fld owGModR.f5) (.head _) rfl (xR rfl rfl) rfl rfl) p243 [7] rfl [0] rfl rfl (λ g242 _ _ _ st242=>?_)
   have st245:=st242.gn
   refine st245.segB 2 (sc rfl (QS rfl kL96 (tp rfl))<|segC) [7,173,174] [(0,1),(172,0)] (λ _ _ st246=>wpList_nil ?_)
   have st247:=st246.ncf (s:=0) 1 rfl rfl iI [172] rfl
   refine za (wp_block ?_)
   refine zG h244 (λ s248 a w=>∃ M1 q248_0 q248_1 q248_2 q248_3 q248_4 q248_5 q248_6,Sx (Frm.chg w0 G) 236 M M1 [oneB q248_0,q248_1,q248_2,q248_3,oneB q248_4,oneB q248_5,oneB q248_6] [(173,dt (v243.length:Int)),(174,dt s248.2),(7,dis (.pointer (some ⟨b4,0,none⟩)))] [(172,0,dtip q248_0 189 v243),(0,1,dnm (oMac ((v224.2.1.toNat,b236)::((x1.toNat,b4)::ps))) q248_1 ⟨s248.1⟩ (.pointer (some ⟨b0,0,none⟩)) [])] a w) fx ?_
   rintro s248 z248 a248 w248 ⟨M248,q248_0,q248_1,q248_2,q248_3,q248_4,q248_5,q248_6,st248⟩ hs248 hx248
   have h249:yC R x1 v243 s248=some z248:=hs248
   unfold yC at h249
   refine st248.sqA [7,173,174,175] [(0,1),(172,0)] (λ _ _ st250=>wp_seq ?_)
   refine st250.cs rfl h249 (λ _ h251=>wp_skip (za ?_)) (λ _ h252=>wp_exit (zi (zi (zy ?_))))
   ·
    obtain⟨o253,p253,k253⟩:=bs h251
    refine zj (λ a w=>∃ M1 q253_0 q253_1 q253_2 q253_3 q253_4 q253_5 q253_6,Sx (Frm.chg w0 G) 236 M M1 [oneB q253_0,q253_1,q253_2,q253_3,oneB q253_4,oneB q253_5,oneB q253_6] [(173,dt (v243.length:Int)),(174,dt s248.2),(7,dis (.pointer (some ⟨b4,0,none⟩)))] [(172,0,dtip q253_0 189 v243),(0,1,dnm (oMac ((v224.2.1.toNat,b236)::((x1.toNat,b4)::ps))) q253_1 ⟨o253⟩ (.pointer (some ⟨b0,0,none⟩)) [])] a w) ?_ ?_
    ·
     refine wp_block (wp_seq (wp_region_list ?_))
     obtain⟨v254,p254,h255⟩:=bs p253
     refine st250.segB 2 (sc rfl (xIdxT rfl kS96 (tp rfl) (tp rfl) p254)<|segC) [7,173,174,177] [(0,1),(172,0)] (λ _ _ st256=>?_)
     refine st256.alA 5 zrGAttr [7,173,174,177] [0,172] (λ b258 _ _ _ st258=>?_)
     have st259:=st258.gn
     refine st259.stA 25 5 FldS.id (tp rfl) [7,173,174] [0,172] (λ _ _ st261=>wpList_nil (za ?_))
     obtain⟨v262,p262,h263⟩:=bs h255
     refine st261.sqB (sP 2 (r:=by exact sc rfl (xByte rfl kX9 (tp rfl) cI p262)<|sc rfl (oCB rfl (tp rfl) (Yo (by decide)))<|.nil)) [7,173,174,181] [(0,1),(25,5),(172,0)] (λ _ _ st264=>?_)
     refine st264.cs rfl h263 (λ _ h265=>wp_region_list ?_) (λ _ h266=>wp_skip (zf (za ?_)))
     ·
      refine st264.segC 5 [7,173,174,182,184,186] [(0,1),(172,0)] (λ _ _ st267=>?_)
      obtain⟨v269,p269,v271,p271,h272⟩:=bsB h265
      refine st267.cSF (l:=[.tmp 184,.tmp 186]) 1 (st267.bkP (sb:=0) ((PV.root.box rfl).fld owMachine.f4) (.tail _ (.head _)) p269 rfl iI) rfl rfl kN122 (st267.st.has 182 _ rfl) (by simp) (.cons (tp rfl) (.cons (tp rfl) .nil)) (FnS.any (jj p271)) [7,173,174] rfl [172] rfl rfl (by decide) (λ _ _ _ _ st268=>?_)
      have st273:=st268.gn
      refine wpList_nil (zf (za ?_))
      cases h272
      exact fx
     cases h266
     exact fx
    rintro a253 w253 ⟨M253,q253_0,q253_1,q253_2,q253_3,q253_4,q253_5,q253_6,st253⟩
    have h274:=k253
    obtain⟨v275,p275,h276⟩:=bs h274
    refine st253.rgA [7,173,174] [(0,1),(172,0)] (λ _ _ st277=>za ?_)
    exact fl h276
   refine zf ?_
   have st278:=st250.asA 0 1 (y9 (owMachine.imp4 (yH (λ _ h=>(.tail _ h))))) [172]
   refine za ?_
   have h279:=lo h252 hx248
   exact fl h279
  refine st219.sqA [5,7,36,189] [(0,1)] (λ _ _ st280=>?_)
  refine st280.cs rfl h221 (λ _ h281=>wp_region_list ?_) (λ _ h282=>?_)
  ·
   refine st280.segB 6 (sP 5 (r:=by exact sc rfl (JD rfl cI (tp rfl))<|.nil)) [191,193,196] [(0,1)] (λ _ _ st283=>?_)
   obtain⟨v285,p285,v287,p287,h288⟩:=bsB h281
   refine st283.cSF (l:=[.tmp 193,.tmp 196]) 1 (st283.bkP (sb:=0) ((PV.root.box rfl).fld owMachine.f4) (.head _) p285 rfl iI) rfl rfl kN122 (st283.st.has 191 _ rfl) (by simp) (.cons (tp rfl) (.cons (tp rfl) .nil)) (FnS.any (jj p287)) [] rfl [] rfl rfl (by decide) (λ _ _ _ _ st284=>?_)
   have st289:=st284.gn
   refine wpList_nil (zf (za ?_))
   exact fl h288
  refine st280.sqA [5,7,36,198] [(0,1)] (λ _ _ st290=>?_)
  refine st290.cs rfl h282 (λ _ h291=>wp_seq (wp_region_list ?_)) (λ _ h292=>?_)
  ·
   obtain⟨v293,p293,v294,p294,h296⟩:=bsB h291
   refine st290.segB 7 (sP 3 (r:=by exact sc rfl (xE (l:=[.tmp 201,.tmp 203]) st290.ob.sub rfl kN203 (.cons (lendQ (sb:=0) st290.ob 1 (((PV.root.box rfl).fld owMachine.f4).rowP (.head _) p293) (tp rfl) rfl iI) (.cons (jm st290.ob.sub (tp rfl)) .nil)) (ji p294) (Wh Jb qI))<|segC)) [205,206] [(0,1)] (λ _ _ st297=>?_)
   refine st297.alA 6 Qq [205,206] [0] (λ b299 _ _ _ st299=>?_)
   have st300:=st299.gn
   refine st300.stA 26 6 FldS.id (tp rfl) [206] [0] (λ _ _ st302=>?_)
   refine st302.segA 1 [27] [(0,1),(26,6)] (λ _ _ st303=>wpList_nil (za (wp_block ?_)))
   refine st303.sqA [218] [(0,1),(26,6)] (λ _ _ st304=>?_)
   refine st304.cs rfl h296 (λ _ h305=>?_) (λ _ h306=>?_)
   ·
    refine st304.sqA [6] [(0,1)] (λ _ _ st307=>wp_ret (zq (zq (ze ?_))))
    have st308:=st307.asA 0 1 (y9 (owMachine.imp4 (yH (λ _ h=>(.tail _ h))))) []
    have h309:=jo h305 k8
    exact st308.rsF (s:=0) 1 rfl rfl rfl iI (bxr h309) yk
   refine st304.sqC [221] [(0,1),(26,6)] (λ _ _ st310=>?_)
   refine st310.cs rfl h306 (λ _ h311=>wp_region_list ?_) (λ _ h312=>?_)
   ·
    refine st310.hdA 0 1 ((PV.root.box rfl).fld owMachine.f5) [26] (λ g313 A313 _ hA313 st313=>?_)
    refine st313.segB 6 (sP 5 (r:=by exact sc rfl (yy (opds:=[.const (.int .i64 (-1))]) rfl kS26 kY26 rfl rfl (by decide) (.cons cI .nil))<|.nil)) [225,229,230] [(0,1)] (λ _ _ st314=>?_)
    refine st314.mvG (s:=229) (sb:=0) 1 3 ((PV.root.box rfl).fld owMachine.f5) (.head _) rfl (xR rfl rfl) rfl (by simp) (by simp) (by decide) rfl iI [225,230] rfl [] rfl rfl rfl rfl (λ G316 H316 st316=>?_)
    have st317:=st316.gs (Gs':=[oneB none,G316,oneB none,H316,oneB none,oneB none,oneB (some b299)]) rfl
    refine st317.tipR (s:=229) 3 rfl rfl (by simp) iI [0] rfl rfl (λ g318 st318=>?_)
    obtain⟨v320,p320,h321⟩:=bs h311
    refine st318.apA 3 xz p320 [225] [0] (λ g319 _ _ _ st319=>?_)
    have st322:=st319.gn
    refine st322.segC 2 [233] [(0,1),(231,3)] (λ _ _ st323=>?_)
    have st325:=st323.tipW (s:=231) 3 rfl rfl iI [0] rfl
    refine st325.shA 0 231 1 3 (tp rfl) [] [] (λ _ _ st324=>?_)
    have st326:=st324.gn
    refine wpList_nil (zf (zf (za ?_)))
    exact fl h321
   refine st310.held (λ _=>True) zK (λ _ st327=>?_)
   refine st327.tN 0 0 trivial (λ _ st328=>?_)
   refine st328.hdA 0 1 ((PV.root.box rfl).fld owMachine.f5) [26] (λ g329 A329 _ hA329 st329=>?_)
   refine st329.drnE (D:=[_,_,_,_,_,_,_,_]) 8 [0] [[(0,nS)],[(0,nS)],[(208,1)],[(209,2)],[(210,3),(0,nS)],[(26,nS)],[(212,5)],[(213,6)],[(211,4),(214,7)],[(207,0)],[(216,9)],[(217,10),(215,8)]] (by decide +kernel) (by decide) (by decide +kernel) (by decide +kernel) (
    rc rfl rfl (oM rfl (zQ rfl))<|rc rfl rfl (oM rfl (zQ rfl))<|rc rfl rfl (xNc rfl (tp rfl))<|rc rfl rfl (xFa rfl kF94_5 (tp rfl))<|rc rfl rfl (xLc (sb:=0) (.head _) rfl rfl rfl kT26 (tp rfl) rfl)<|rc rfl rfl (xh GVal.fld1 rfl kF154_1 (tp rfl))<|rc rfl rfl (yc rfl kT3 (tp rfl))<|rc rfl rfl (yy (opds:=[.tmp 213]) rfl kS26 kY26 rfl rfl (by decide) (.cons (tp rfl) .nil))<|.nil) (by
 intro i hi x d hx
 simp only[List.mem_cons,List.not_mem_nil,or_false] at hi
 rcases hi with rfl
 all_goals (injection hx with hx;injection hx with h1 h2;subst h1;subst h2;rfl)) [207,211,214] rfl [(0,1)] rfl iT (λ _ _ st330=>?_)
   refine st330.mvG (s:=211) (sb:=0) 1 2 ((PV.root.box rfl).fld owMachine.f5) (.head _) rfl (xR rfl rfl) rfl (by simp) (by simp) (by decide) rfl iI [207,214] rfl [] rfl rfl rfl rfl (λ G332 H332 st332=>?_)
   have st333:=st332.gs (Gs':=[oneB none,G332,H332,oneB none,oneB none,oneB none,oneB (some b299)]) rfl
   refine st333.tipR (s:=211) 2 rfl rfl (by simp) iI [0] rfl rfl (λ g334 st334=>?_)
   obtain⟨v336,p336,h337⟩:=bs h312
   refine st334.apA 2 xz p336 [207] [0] (λ g335 _ _ _ st335=>?_)
   have st338:=st335.gn
   refine st338.segC 2 [217] [(0,1),(215,2)] (λ _ _ st339=>?_)
   have st341:=st339.tipW (s:=215) 2 rfl rfl iI [0] rfl
   refine st341.shA 0 215 1 2 (tp rfl) [] [] (λ _ _ st340=>?_)
   have st342:=st340.gn
   refine wpList_nil (zf (zf (za ?_)))
   exact fl h337
  refine st290.sqA [234] [(0,1)] (λ _ _ st343=>?_)
  refine st343.cs rfl h292 (λ _ h344=>?_) (λ _ h345=>wp_skip (zf (za ?_)))
  ·
   refine st343.sqA [6] [(0,1)] (λ _ _ st346=>wp_ret (zq (ze ?_)))
   have st347:=st346.asA 0 1 (y9 (owMachine.imp4 (yH (λ _ h=>(.tail _ h))))) []
   have h348:=jo h344 k8
   exact st347.rsF (s:=0) 1 rfl rfl rfl iI (bxr h348) yk
  exact fl h345
 rintro a8 w8 ⟨b8,rfl,⟨M8,q8_0,q8_1,q8_2,q8_3,q8_4,q8_5,q8_6,st8⟩⟩
 have h349:=jn k8
 refine st8.sqA [6] [(0,1)] (λ _ _ st350=>wp_ret ?_)
 have st351:=st350.asA 0 1 (y9 (owMachine.imp4 (yH (λ _ h=>(.tail _ h))))) []
 exact st351.rsF (s:=0) 1 rfl rfl rfl iI (bxr h349) yk
open Go.RowKit Tryz
set_option maxRecDepth 10000
set_option maxHeartbeats 1600000
theorem kZ37:xX prog 37=some Jz:=by kernel_rfl
theorem kS35:slB prog 35 6=true:=by kernel_rfl
theorem kB37:bldB prog 37 [1,1,1,1,1]=true:=by kernel_rfl
theorem kC37:qm prog 37 [1,1,1,1,1]=some zaI:=by kernel_rfl
theorem kT37:tyB prog 37 true 5=true:=by kernel_rfl
theorem kF37_3:fldB prog 37 3 3=true:=by kernel_rfl
theorem kT35:tyB prog 35 false 1=true:=by kernel_rfl
instance iF37_3MaD:FldO prog 37 3 3:=⟨kF37_3⟩
instance iF94_4MaD:FldO prog 94 4 4:=⟨XA⟩
instance iF98_3MaD:FldO prog 98 3 3:=⟨kF98_3⟩
def wo(R:Rec)(x0:Machine)(x1:GCmd):Option (Machine×Int):=
(zS x0 x1.name).bind λ v2=>
if(cmpI .eql x1.kind (0:Int))=true then((R.impl_machine_load1 x0 x1.name).bind λ v11=>
some (v11.1,v11.2.2))
else(if(cmpI .eql x1.kind (2:Int))=true then(if(cmpI .lss v2 (0:Int))=true then(some (x0,(1:Int)))
else((atI x0.modules v2).bind λ _v23=>
(x0.modules[v2.toNat]?).bind λ v25=>
some ({ x0 with modules:=(x0.modules.set v2.toNat ⟨{ v25.x with cached:=false }⟩) },(0:Int))))
else((yG x1.name).bind λ v32=>
(gO ((cmpI .lss v2 (0:Int) == false)&&(decide (v32≠(⟨[]⟩:Str)) == true)) (zS x0 v32)).bind λ v35=>
if(cmpI .lss v2 (0:Int)||(decide (v32≠(⟨[]⟩:Str))&&cmpI .lss v35 (0:Int)))=true then(some (x0,(1:Int)))
else((yp x0 x1.name).bind λ v43=>
if(cmpI .eql v43.2.kind (0:Int))=true then(some (v43.1,(1:Int)))
else((atI v43.1.modules v2).bind λ _v55=>
(v43.1.modules[v2.toNat]?).bind λ v57=>
(atI (v43.1.modules.set v2.toNat ⟨{ v57.x with kind:=v43.2.kind }⟩) v2).bind λ _v63=>
(appO 8 [] v43.2.roots).bind λ v64=>
((v43.1.modules.set v2.toNat ⟨{ v57.x with kind:=v43.2.kind }⟩)[v2.toNat]?).bind λ v65=>
(R.impl_machine_body ({ v43.1 with modules:=((v43.1.modules.set v2.toNat ⟨{ v57.x with kind:=v43.2.kind }⟩).set v2.toNat ⟨{ v65.x with roots:=v64 }⟩) }) v2 v43.2).bind λ v73=>
some (v73.1,v73.2)))))
theorem Qu{R:Rec}(hR:R.ok){ps:List (Nat×Nat)}{x0:Machine}{x1:GCmd}{r:Machine×Int}(h:wo R x0 x1=some r):FnS prog 101 (oMac ps) ⟨x0⟩ [dt x1] ⟨r.1⟩ (.frz (dt r.2)):=by
 unfold wo at h
 refine fnSB (fn:=f101) 0 2 func101 rfl (oD rfl) rfl (λ M G _ b0 _ st0=>?_)
 refine st0.sqA [3] [(0,0)] (λ _ _ st1=>?_)
 obtain⟨v2,p2,h3⟩:=bs h
 refine st1.sqB (sP 3 (r:=by exact sc rfl (xE (l:=[.tmp 10,.tmp 12]) st1.ob.sub rfl kN118 (.cons (lendA (sb:=0) st1.ob 0 (tp rfl) rfl iI) (.cons (jm st1.ob.sub (tp rfl)) .nil)) (yw p2) yk)<|segC)) [3,5] [(0,0)] (λ _ _ st4=>wp_seq ?_)
 refine st4.sqA [3,5,15] [(0,0)] (λ _ _ st5=>wp_block ?_)
 refine st5.sqA [3,5,15,16] [(0,0)] (λ _ _ st6=>?_)
 refine st6.cs rfl h3 (λ _ h7=>wp_seq (wp_region_list ?_)) (λ _ h8=>?_)
 ·
  refine st6.segC 3 [19,21] [(0,0)] (λ _ _ st9=>?_)
  obtain⟨v11,p11,h12⟩:=bs h7
  refine st9.cNA 0 0 (hR.impl_machine_load1 p11) [] [] (λ _ _ _ _ st10=>?_)
  refine st10.segA 5 [7] [(0,0)] (λ _ _ st13=>wpList_nil (za ?_))
  refine st13.sqA [4] [(0,0)] (λ _ _ st14=>wp_ret (zq (ze ?_)))
  exact st14.rsF (s:=0) 0 rfl rfl rfl iI (bxr h12) yk
 refine st6.sqA [3,5,26] [(0,0)] (λ _ _ st15=>?_)
 refine st15.cs rfl h8 (λ _ h16=>wp_seq ?_) (λ _ h17=>wp_skip (zf (za ?_)))
 ·
  refine st15.sqA [5,29] [(0,0)] (λ _ _ st18=>?_)
  refine st18.cs rfl h16 (λ _ h19=>?_) (λ _ h20=>wp_skip (za (wp_seq (wp_region_list ?_))))
  ·
   refine st18.sqA [4] [(0,0)] (λ _ _ st21=>wp_ret (ze (zq (ze ?_))))
   exact st21.rsF (s:=0) 0 rfl rfl rfl iI (bxr h19) yk
  obtain⟨v23,p23,v25,p25,h27⟩:=bsB h20
  refine st18.hdF (s:=0) 0 true (λ _=>((PV.root.box rfl).fld owMachine.f4)) rfl rfl iI [] rfl (λ g22 A22 _ hA22 st22=>?_)
  refine st22.mintP (s:=0) 0 rfl rfl iI (jX (owMachine.impE4 (qu (zx (yh p23).2)))) [] rfl (λ b24 st24=>?_)
  refine st24.segB 9 (sP 5 (r:=by exact sc rfl (xIa (g:=g22) rfl kS92 (tp rfl) (tp rfl) rfl (λ h=>hA22 h rfl) p23)<|sc rfl (xLdP (sb:=0) ((PV.root.box rfl).fld owMachine.f4) (.head _) rfl (λ h=>hA22 h rfl) (.head _) (yh p23).2 (Nat.mul_one _) rfl kT95 (tp rfl) rfl)<|segC)) [38] [(0,0)] (λ _ _ st28=>?_)
  refine st28.sfA 0 0 ((((PV.root.box rfl).fld owMachine.f4).rowP (.head _) p25).fld owGModR.f3) (tp rfl) cB [] [] (λ _ st29=>wpList_nil (za ?_))
  refine st29.sqA [4] [(0,0)] (λ _ _ st30=>wp_ret (zq (ze ?_)))
  have st31:=st30.asA 0 0 (y9 (owMachine.imp4 (yH (λ _ h=>(.tail _ h))))) []
  exact st31.rsF (s:=0) 0 rfl rfl rfl iI (bxr h27) yk
 obtain⟨v32,p32,h33⟩:=bsW h17 qt
 refine st15.sqA [3,5,8] [(0,0)] (λ _ _ st34=>wp_seq ?_)
 obtain⟨v35,p35,h36⟩:=bs h33
 refine st34.sqB (sP 5 (r:=by exact sg rfl rfl (λ hg=>oM rfl (zm hg rfl))<|sgg rfl rfl (λ hg=>oM rfl (zQ rfl))<|sgg rfl rfl (λ hg=>oM rfl (tp rfl))<|sgg rfl rfl (λ hg=>xE (l:=[.tmp 48,.tmp 49]) st34.ob.sub rfl kN118 (.cons (lendA (sb:=0) st34.ob 0 (zm hg rfl) rfl iI) (.cons (jm st34.ob.sub (zm hg rfl)) .nil)) (yw (gh hg p35)) yk)<|sgg rfl rfl (λ hg=>oCI rfl (zm hg rfl) cI)<|sg rfl rfl (λ hg=>yU rfl (zm hg rfl) (X0 hg rfl))<|segC)) [3,5,53] [(0,0)] (λ _ _ st37=>?_)
 refine st37.cs rfl h36 (λ _ h38=>?_) (λ _ h39=>wp_skip (za (wp_seq (wp_region_list ?_))))
 ·
  refine st37.sqA [4] [(0,0)] (λ _ _ st40=>wp_ret (ze ?_))
  exact st40.rsF (s:=0) 0 rfl rfl rfl iI (bxr h38) yk
 refine st37.segC 3 [5,54,56] [(0,0)] (λ _ _ st41=>?_)
 obtain⟨v43,p43,h44⟩:=bs h39
 refine st41.cNA 0 0 (Zs p43) [5] [] (λ _ _ _ _ st42=>?_)
 refine st42.alA 1 X2 [5,57] [0] (λ b46 _ _ _ st46=>?_)
 refine st46.stA 9 1 FldS.id (tp rfl) [5] [0] (λ _ _ st48=>?_)
 have st49:=st48.frzX 1 (s:=9) rfl rfl [5] rfl [0] rfl
 refine wpList_nil (za (wp_seq ?_))
 refine st49.sqA [5,9,60] [(0,0)] (λ _ _ st50=>?_)
 refine st50.cs rfl h44 (λ _ h51=>?_) (λ _ h52=>wp_skip (za (wp_seq ?_)))
 ·
  refine st50.sqA [4] [(0,0)] (λ _ _ st53=>wp_ret (ze ?_))
  exact st53.rsF (s:=0) 0 rfl rfl rfl iI (bxr h51) yk
 obtain⟨v55,p55,v57,p57,h59⟩:=bsB h52
 refine st50.hdF (s:=0) 0 true (λ _=>((PV.root.box rfl).fld owMachine.f4)) rfl rfl iI [] rfl (λ g54 A54 _ hA54 st54=>?_)
 refine st54.mintP (s:=0) 0 rfl rfl iI (jX (owMachine.impE4 (qu (zx (yh p55).2)))) [] rfl (λ b56 st56=>?_)
 refine st56.drnA (D:=[_,_,_,_,_,_,_,_,_,_,_]) zK 11 [[(0,nS)],[(61,0)],[(62,1)],[(63,2),(0,nS)],[(5,nS)],[(64,3),(65,4)],[(66,5),(0,nS)],[(9,nS)],[(68,7)],[(67,6)],[(70,9),(0,nS)],[(71,10),(69,8)]] [5,9,69,71] [(0,0)] (λ _ _ st60=>?_) (hs:=rc rfl rfl (oM rfl (zQ rfl))<|rc rfl rfl (xNc rfl (tp rfl))<|rc rfl rfl (xFa rfl XA (tp rfl))<|rc rfl rfl (xLc (sb:=0) (.head _) rfl rfl rfl kT92 (tp rfl) rfl)<|rc rfl rfl (oM rfl (tp rfl))<|rc rfl rfl (xIa (g:=g54) rfl kS92 (tp rfl) (tp rfl) rfl (λ h=>hA54 h rfl) p55)<|rc rfl rfl (xLdP (sb:=0) ((PV.root.box rfl).fld owMachine.f4) (.head _) rfl (λ h=>hA54 h rfl) (.head _) (yh p55).2 (Nat.mul_one _) rfl kT95 (tp rfl) rfl)<|rc rfl rfl (zD Spec.fld0 rfl kF71_0 (tp rfl))<|rc rfl rfl (zp rfl kT3 (tp rfl))<|rc rfl rfl (xNc rfl (tp rfl))<|rc rfl rfl (xFa rfl kF98_1 (tp rfl))<|.nil)
 refine st60.sfA 0 0 ((((PV.root.box rfl).fld owMachine.f4).rowP (.head _) p57).fld owGModR.f1) (tp rfl) (tp rfl) [5,9] [] (λ _ st61=>wpList_nil (za (wp_seq ?_)))
 obtain⟨v63,p63,v64,p64,v65,p65,h68⟩:=bsC h59
 refine st61.hdF (s:=0) 0 true (λ _=>((PV.root.box rfl).fld owMachine.f4)) rfl rfl iI [] rfl (λ g62 A62 _ hA62 st62=>?_)
 refine st62.drnA (D:=[_,_,_,_,_,_,_,_,_,_,_,_,_]) zK 13 [[(0,nS)],[(72,0)],[(73,1)],[(74,2),(0,nS)],[(5,nS)],[(75,3),(76,4)],[(77,5),(0,nS)],[],[(9,nS)],[(80,8)],[(79,7),(81,9)],[(78,6)],[(83,11),(0,nS)],[(84,12),(82,10)]] [5,9,82,84] [(0,0)] (λ _ _ st69=>?_) (hs:=rc rfl rfl (oM rfl (zQ rfl))<|rc rfl rfl (xNc rfl (tp rfl))<|rc rfl rfl (xFa rfl XA (tp rfl))<|rc rfl rfl (xLc (sb:=0) (.head _) rfl rfl rfl kT92 (tp rfl) rfl)<|rc rfl rfl (oM rfl (tp rfl))<|rc rfl rfl (xIa (g:=g62) rfl kS92 (tp rfl) (tp rfl) rfl (λ h=>hA62 h rfl) p63)<|rc rfl rfl (xLdP (sb:=0) ((PV.root.box rfl).fld owMachine.f4) (.head _) rfl (λ h=>hA62 h rfl) (.head _) (yh p63).2 (Nat.mul_one _) rfl kT95 (tp rfl) rfl)<|rc rfl rfl (xu (α:=Int) (e:=3) rfl kS26)<|rc rfl rfl (zD Spec.fld2 rfl kF71_2 (tp rfl))<|rc rfl rfl (zp rfl kT26 (tp rfl))<|rc rfl rfl (JB rfl kE26 (tp rfl) (tp rfl) p64)<|rc rfl rfl (xNc rfl (tp rfl))<|rc rfl rfl (xFa rfl kF98_2 (tp rfl))<|.nil)
 refine st69.sfA 0 0 ((((PV.root.box rfl).fld owMachine.f4).rowP (.head _) p65).fld owGModR.f2) (tp rfl) (tp rfl) [5,9] [] (λ _ st70=>wpList_nil (za (wp_seq (wp_region_list ?_))))
 refine st70.segC 3 [85,86,87] [(0,0)] (λ _ _ st71=>?_)
 obtain⟨v73,p73,h74⟩:=bs h68
 refine st71.cNA 0 0 (hR.impl_machine_body p73) [] [] (λ _ _ _ _ st72=>?_)
 refine st72.segA 1 [4] [(0,0)] (λ _ _ st75=>wpList_nil (za (wp_ret ?_)))
 have st76:=st75.asA 0 0 (y9 (owMachine.imp4 (yH (λ _ h=>(.tail _ h))))) []
 exact st76.rsF (s:=0) 0 rfl rfl rfl iI (bxr h74) yk
def yu(x0:Machine)(s16:GResult×Int):Option ((GResult×Int)⊕GResult):=
if(cmpI .lss s16.2 (x0.modules.length:Int))=true then((atI x0.modules s16.2).bind λ v21=>
(appO 8 [] v21.x.roots).bind λ v30=>
(appO 32 [] v21.x.attrs).bind λ v35=>
(appO 80 s16.1.modules ([{ { v21.x with roots:=v30 } with attrs:=v35 }]:List GMod)).bind λ v48=>
(i64 (s16.2+(1:Int))).bind λ v55=>
some (.inl ({ s16.1 with modules:=v48 },v55)))
else(some (.inr s16.1))
def xn(x0:Machine)(x1:List Int):Option GResult:=
(appO 8 [] x0.out).bind λ v4=>
(appO 24 [] x0.log).bind λ v5=>
Option.bind (α:=GResult) (zM (λ s16=>yu x0 s16) ((⟨x1,v4,v5,[],x0.left⟩:GResult),(0:Int))) λ o13=>
some o13
theorem WW{x0:Machine}{x1:List Int}{r:GResult}(h:xn x0 x1=some r):Fn prog 102 [dptr x0,dt x1] (dt r):=by
 unfold xn at h
 refine fnx (fn:=f102) 6 func102 rfl (oD rfl) rfl (λ M w0 _ st0=>wp_seq (wp_region_list ?_))
 refine st0.alA 3 JA [0,1] [] (λ b2 _ _ _ st2=>?_)
 have st3:=st2.gn
 refine wpList_nil (za (wp_seq ?_))
 obtain⟨v4,p4,v5,p5,h7⟩:=bsB h
 refine st3.alc (D:=[_,_,_,_,_,_,_,_,_,_,_,_,_,_,_,_,_,_,_,W6]) [mkOwn 19 5 37 Jz 4 Xv (owGResultR (Ow.row 98 (Ow.frz (α:=GMod)))) (owGResultR.z Ow.row_z)] zK 20 [[(1,nS)],[],[(0,nS)],[(11,2)],[(12,3)],[(13,4)],[(10,1),(14,5)],[],[(0,nS)],[(17,8)],[(18,9)],[(19,10)],[(16,7),(20,11)],[],[(0,nS)],[(23,14)],[(24,15)],[(25,16)],[(9,0),(15,6),(21,12),(22,13),(26,17)],[],[(5,19),(27,18)]] (by decide +kernel) (by decide) (by decide +kernel) ⟨kZ37,trivial⟩ (by decide) (by decide) (by simp[mkOwn]) (λ M8 hM8=>
  ac rfl rfl rfl (oM rfl (tp rfl))<|ac rfl rfl rfl (xu (α:=Int) (e:=3) rfl kS26)<|ac rfl rfl rfl (oM rfl (tp rfl))<|ac rfl rfl rfl (xNcP rfl (tp rfl))<|ac rfl rfl rfl (zD Machine.fld5 rfl kF94_5 (tp rfl))<|ac rfl rfl rfl (zp rfl kT26 (tp rfl))<|ac rfl rfl rfl (JB rfl kE26 (tp rfl) (tp rfl) p4)<|ac rfl rfl rfl (xu (α:=GEvent) (e:=136) rfl kS34)<|ac rfl rfl rfl (oM rfl (tp rfl))<|ac rfl rfl rfl (xNcP rfl (tp rfl))<|ac rfl rfl rfl (zD Machine.fld6 rfl kF94_6 (tp rfl))<|ac rfl rfl rfl (zp rfl kT34 (tp rfl))<|ac rfl rfl rfl (JB rfl kE34 (tp rfl) (tp rfl) p5)<|ac rfl rfl rfl (xu (α:=GMod) (e:=98) rfl kS35)<|ac rfl rfl rfl (oM rfl (tp rfl))<|ac rfl rfl rfl (xNcP rfl (tp rfl))<|ac rfl rfl rfl (zD Machine.fld8 rfl kF94_8 (tp rfl))<|ac rfl rfl rfl (zp rfl kT3 (tp rfl))<|ac rfl rfl rfl (op_buildN (oy:=(owGResultR (Ow.row 98 (Ow.frz (α:=GMod))))) (parts:=[(0,.tmp 9),(1,.tmp 15),(2,.tmp 21),(3,.tmp 22),(4,.tmp 26)]) (ns:=[1,1,1,1,1]) (zs:=zaI) (y:=(⟨x1,v4,v5,[],x0.left⟩:GResult)) rfl rfl kB37 kC37 (λ w a hl=>by
 intro p hp;simp only[List.mem_cons,List.not_mem_nil,or_false] at hp
 rcases hp with rfl | rfl | rfl | rfl | rfl
 ·
  exact⟨by decide,Rep.len (α:=List Int) (OpdR.cells (tp rfl) hl)⟩
 ·
  exact⟨by decide,Rep.len (α:=List Int) (OpdR.cells (tp rfl) hl)⟩
 ·
  exact⟨by decide,Rep.len (α:=List GEvent) (OpdR.cells (tp rfl) hl)⟩
 ·
  exact⟨by decide,Ow.len (Ow.row 98 (Ow.frz (α:=GMod))) (lit_ownO (tp rfl) hl)⟩
 ·
  exact⟨by decide,Rep.len (α:=Int) (OpdR.cells (tp rfl) hl)⟩) (λ w a hl=>owGResultR.mk (x:=(⟨x1,v4,v5,[],x0.left⟩:GResult)) (OpdR.cells (tp rfl) hl) (OpdR.cells (tp rfl) hl) (OpdR.cells (tp rfl) hl) (lit_ownO (tp rfl) hl) (OpdR.cells (tp rfl) hl)))<|al rfl rfl<|.nil) [0,27] rfl [4] rfl rfl rfl rfl (λ β8 M8 _ _ st8=>?_)
 have st9:=st8.gs (Gs':=[oneB none,oneB none,oneB none,oneB (some b2),(oneB (some (β8 19))),oneB none]) rfl
 have st10:=st9.dn2O (s:=27) 1 (by simp) rfl [0] rfl [4,5] rfl rfl
 refine st10.stO (sb:=5) (tv:=27) 4 1 (PV.root.box rfl) rfl rfl rfl kT37 (by simp) (by simp) (by decide) (zQ rfl) rfl rfl rfl iI iI [0] rfl [4] rfl rfl rfl (λ _ _ st11=>?_)
 have st12:=st11.gn
 refine wpList_nil (za ?_)
 obtain⟨o13,p13,k13⟩:=bs h7
 refine zj (λ a w=>∃ M1 q13_0 q13_1 q13_2 q13_3 q13_4 q13_5,Sx (Frm.of w0) 62 M M1 [q13_0,q13_1,q13_2,oneB q13_3,q13_4,oneB q13_5] [] [(4,3,dbox q13_3 0 Xv),(5,4,dow (Ow.box (owGResultR (Ow.row 98 (Ow.frz (α:=GMod))))) q13_4 ⟨o13⟩)] a w) ?_ ?_
 ·
  refine st12.sqC [31,32,33] [(4,3),(5,4)] (λ _ _ st14=>wp_block ?_)
  have st15:=st14.unm (s:=5) 4 rfl rfl iI [4] rfl
  refine zG p13 (λ s16 a w=>∃ M1 q16_0 q16_1 q16_2 q16_3 q16_4 q16_5,Sx (Frm.of w0) 62 M M1 [q16_0,q16_1,q16_2,oneB q16_3,q16_4,oneB q16_5] [(31,dt x0.modules),(32,dt (x0.modules.length:Int)),(33,dt s16.2)] [(4,3,dbox q16_3 0 Xv),(5,4,dow (Ow.box (owGResultR (Ow.row 98 (Ow.frz (α:=GMod))))) q16_4 ⟨s16.1⟩)] a w) fx ?_
  rintro s16 z16 a16 w16 ⟨M16,q16_0,q16_1,q16_2,q16_3,q16_4,q16_5,st16⟩ hs16 hx16
  have h17:yu x0 s16=some z16:=hs16
  unfold yu at h17
  refine st16.sqA [31,32,33,34] [(4,3),(5,4)] (λ _ _ st18=>wp_seq ?_)
  refine st18.cs rfl h17 (λ _ h19=>wp_skip (za (wp_seq (wp_block ?_)))) (λ _ h20=>wp_exit (zi (zi (zy ?_))))
  ·
   obtain⟨v21,p21,h22⟩:=bs h19
   refine st18.sqB (sP 1 (r:=by exact sc rfl (OpRel.bx (zp rfl kT95 (tp rfl)))<|segC)) [7,31,32,33] [(4,3),(5,4)] (λ _ _ st23=>wp_seq (wp_region_list ?_))
   refine st23.segC 3 [7,31,32,33,39] [(4,3),(5,4)] (λ _ _ st24=>?_)
   refine st24.alA 5 zrGMod [7,31,32,33,39] [4,5] (λ b26 _ _ _ st26=>?_)
   have st27:=st26.gn
   refine st27.stA 8 5 FldS.id (tp rfl) [7,31,32,33] [4,5] (λ _ _ st29=>wpList_nil (za (wp_seq (wp_region_list ?_))))
   obtain⟨v30,p30,h31⟩:=bs h22
   refine st29.segB 7 (sc rfl (xu (α:=Int) (e:=3) rfl kS26)<|sP 4 (r:=by exact sc rfl (JB rfl kE26 (tp rfl) (tp rfl) p30)<|segC)) [7,31,32,33,45] [(4,3),(5,4),(8,5),(46,5)] (λ _ _ st32=>?_)
   refine st32.stA 8 5 GMod.set2 (tp rfl) [7,31,32,33] [4,5] (λ _ _ st34=>wpList_nil (za (wp_seq (wp_region_list ?_))))
   obtain⟨v35,p35,h36⟩:=bs h31
   refine st34.segB 7 (sc rfl (xu (α:=GAttr) (e:=189) rfl kS96)<|sP 4 (r:=by exact sc rfl (JB rfl kE96 (tp rfl) (tp rfl) p35)<|segC)) [31,32,33,52] [(4,3),(5,4),(8,5),(53,5)] (λ _ _ st37=>?_)
   refine st37.stA 8 5 GMod.set5 (tp rfl) [31,32,33] [4,5] (λ _ _ st39=>wpList_nil (za (wp_region_list ?_)))
   refine st39.nmB (s:=5) 4 rfl rfl iI [4,8] rfl (λ b40 st40=>?_)
   refine st40.hdA 5 4 ((PV.root.box rfl).fld owGResultR.f3) [4,8] (λ g41 A41 _ hA41 st41=>?_)
   refine st41.segB 4 (sc rfl (xFa rfl kF37_3 (zQ rfl))<|sc rfl (xLc (sb:=5) (.head _) rfl rfl rfl kT35 (tp rfl) rfl)<|segC) [31,32,33,55,57] [(4,3),(5,4)] (λ _ _ st42=>?_)
   refine st42.mvG (s:=55) (sb:=5) 4 2 ((PV.root.box rfl).fld owGResultR.f3) (.head _) rfl (xR rfl rfl) rfl (by simp) (by simp) (by decide) rfl iI [31,32,33,57] rfl [4] rfl rfl rfl rfl (λ G44 H44 st44=>?_)
   have st45:=st44.gs (Gs':=[q16_0,q16_1,H44,oneB q16_3,G44,oneB (some b26)]) rfl
   refine st45.tipR (s:=55) 2 rfl rfl (by simp) iI [4,5] rfl rfl (λ g46 st46=>?_)
   obtain⟨v48,p48,h49⟩:=bs h36
   refine st46.apA 2 xz p48 [31,32,33] [4,5] (λ g47 _ _ _ st47=>?_)
   have st50:=st47.gn
   refine st50.segB 1 (sc rfl (xFa rfl kF37_3 (opd_hl rfl))<|.nil) [31,32,33,59] [(4,3),(5,4),(58,2)] (λ _ _ st51=>?_)
   have st53:=st51.tipW (s:=58) 2 rfl rfl iI [4,5] rfl
   refine st53.shA 5 58 4 2 (tp rfl) [31,32,33] [4] (λ _ _ st52=>?_)
   have st54:=st52.gn
   refine wpList_nil (zf (za ?_))
   obtain⟨v55,p55,h56⟩:=bs h49
   refine st54.rgA [31,32,33] [(4,3),(5,4)] (λ _ _ st57=>?_)
   have st58:=st57.unm (s:=5) 4 rfl rfl iI [4] rfl
   refine za ?_
   exact fl h56
  refine za ?_
  have h59:=lo h20 hx16
  cases h59
  exact fx
 rintro a13 w13 ⟨M13,q13_0,q13_1,q13_2,q13_3,q13_4,q13_5,st13⟩
 have h60:=k13
 have st61:=st13.frzB (s:=5) 4 rfl (by simp) iI [] rfl [4] rfl rfl
 refine wp_seq (wp_region_list ?_)
 refine st61.segA 1 [61] [(4,3)] (λ _ _ st62=>?_)
 refine st62.stA 4 3 FldS.id (tp rfl) [] [] (λ _ _ st64=>wpList_nil (za (wp_ret ?_)))
 exact st64.ret_box rfl kT37 rfl h60
open Go.RowKit Tryz
set_option maxRecDepth 10000
set_option maxHeartbeats 1600000
theorem kN67:fnB prog 67=true:=by kernel_rfl
theorem kN101:fnB prog 101=true:=by kernel_rfl
def wh(R:Rec)(x2:List GCmd)(s30:Machine×(List Int)×Int):Option ((Machine×(List Int)×Int)⊕(Machine×(List Int))):=
if(cmpI .lss s30.2.2 (x2.length:Int))=true then((atI x2 s30.2.2).bind λ v35=>
(wo R s30.1 v35).bind λ v46=>
(appO 8 s30.2.1 ([v46.2]:List Int)).bind λ v52=>
(i64 (s30.2.2+(1:Int))).bind λ v56=>
some (.inl (v46.1,v52,v56)))
else(some (.inr (s30.1,s30.2.1)))
def jk(R:Rec)(x0:Tree)(x1:List Int)(x2:List GCmd)(x3:Int):Option GResult:=
(wk x0).bind λ v5=>
(gO ((!v5) == false) (wl x1)).bind λ v6=>
(gO (((!v5)||(!v6)) == false) (wz x2)).bind λ v7=>
(gO ((((!v5)||(!v6))||(!v7)) == false) (yg x3 (0:Int) (120:Int))).bind λ v8=>
if((((!v5)||(!v6))||(!v7))||(!v8))=true then(some (⟨[],[],[],[],0⟩:GResult))
else((jC x0 x1 x3).bind λ v21=>
Option.bind (α:=Machine×(List Int)) (zM (λ s30=>wh R x2 s30) (v21,[],(0:Int))) λ o27=>
(xn o27.1 o27.2).bind λ v64=>
some v64)
theorem Qv{R:Rec}(hR:R.ok){x0:Tree}{x1:List Int}{x2:List GCmd}{x3:Int}{r:GResult}(h:jk R x0 x1 x2 x3=some r):Fn prog 50 [dt x0,dt x1,dt x2,dt x3] (dt r):=by
 unfold jk at h
 refine fnx (fn:=f50) 4 func50 rfl (oD rfl) rfl (λ M w0 _ st0=>wp_seq (wp_region_list ?_))
 refine st0.segA 1 [1,2,3,4] [] (λ _ _ st1=>?_)
 refine st1.alA 2 JA [1,2,3,4] [] (λ b3 _ _ _ st3=>?_)
 have st4:=st3.gn
 refine wpList_nil (za (wp_seq ?_))
 obtain⟨v5,p5,v6,p6,v7,p7,v8,p8,h12⟩:=bsD h
 refine st4.sqB (sP 1 (r:=by exact sc rfl (oK (Yv p5))<|sP 3 (r:=by exact sg rfl rfl (λ hg=>oK (Yw (gh hg p6)))<|sP 4 (r:=by exact sg rfl rfl (λ hg=>oK (Jd (gh hg p7)))<|sP 4 (r:=by exact sg rfl rfl (λ hg=>oK (wu (gh hg p8)))<|segC))))) [1,2,3,4,30] [(8,2)] (λ _ _ st13=>?_)
 refine st13.cs rfl h12 (λ _ h14=>wp_seq (wp_region_list ?_)) (λ _ h15=>wp_skip (za (wp_seq (wp_region_list ?_))))
 ·
  refine st13.segB 1 (sc rfl (yv (parts:=[]) (ns:=[1,1,1,1,1]) (zs:=zaI) rfl rfl kB37 kC37 (λ w a hl=>by simp) (λ w a hl=>GResult.parts (x:=(⟨[],[],[],[],0⟩:GResult)) jP jP jP jP ⟨rfl,trivial⟩))<|.nil) [31] [(8,2)] (λ _ _ st16=>?_)
  refine st16.stA 8 2 FldS.id (tp rfl) [] [] (λ _ _ st18=>wpList_nil (za ?_))
  refine wp_ret (ze ?_)
  exact st18.ret_box rfl kT37 rfl h14
 refine st13.segA 3 [2,32,33,34] [(8,2)] (λ _ _ st19=>?_)
 obtain⟨v21,p21,h22⟩:=bs h15
 refine st19.cN (l:=[.tmp 32,.tmp 33,.tmp 34]) 0 rfl rfl kN67 (.cons (tp rfl) (.cons (tp rfl) (.cons (tp rfl) .nil))) (zad p21) (by simp) [2] rfl [8] rfl rfl (λ _ _ _ _ st20=>?_)
 have st23:=st20.gn
 refine st23.nmB (s:=35) 0 rfl rfl iI [8] rfl (λ b24 st24=>?_)
 refine st24.segA 1 [2] [(8,2),(9,0)] (λ _ _ st25=>wpList_nil (za ?_))
 refine st25.sqB (sc rfl (xu (α:=Int) (e:=3) rfl kS26)<|segC) [2] [(8,2),(9,0),(10,1)] (λ _ _ st26=>?_)
 obtain⟨o27,p27,k27⟩:=bs h22
 refine zj (λ a w=>∃ M1 q27_0 q27_1 q27_2 q27_3,Sx (Frm.of w0) 53 M M1 [q27_0,oneB q27_1,oneB q27_2,oneB q27_3] [] [(8,2,dbox q27_2 0 Xv),(10,1,dtip q27_1 3 o27.2),(9,0,dow (oMac []) q27_0 ⟨o27.1⟩)] a w) ?_ ?_
 ·
  refine st26.sqA [37,38,39] [(8,2),(9,0),(10,1)] (λ _ _ st28=>wp_block ?_)
  have st29:=st28.unm (s:=9) 0 rfl rfl iI [8,10] rfl
  refine zG p27 (λ s30 a w=>∃ M1 q30_0 q30_1 q30_2 q30_3,Sx (Frm.of w0) 53 M M1 [q30_0,oneB q30_1,oneB q30_2,oneB q30_3] [(37,dt x2),(38,dt (x2.length:Int)),(39,dt s30.2.2)] [(8,2,dbox q30_2 0 Xv),(10,1,dtip q30_1 3 s30.2.1),(9,0,dow (oMac []) q30_0 ⟨s30.1⟩)] a w) fx ?_
  rintro s30 z30 a30 w30 ⟨M30,q30_0,q30_1,q30_2,q30_3,st30⟩ hs30 hx30
  have h31:wh R x2 s30=some z30:=hs30
  unfold wh at h31
  refine st30.sqA [37,38,39,40] [(8,2),(9,0),(10,1)] (λ _ _ st32=>wp_seq ?_)
  refine st32.cs rfl h31 (λ _ h33=>wp_skip (za (wp_seq (wp_block (wp_seq (wp_region_list ?_)))))) (λ _ h34=>wp_exit (zi (zi (zy ?_))))
  ·
   obtain⟨v35,p35,h36⟩:=bs h33
   refine st32.segA 2 [37,38,39,42] [(8,2),(9,0),(10,1)] (λ _ _ st37=>?_)
   refine st37.alA 3 zrGCmd [37,38,39,42] [8,9,10] (λ b39 _ _ _ st39=>?_)
   have st40:=st39.gn
   refine st40.stA 12 3 FldS.id (tp rfl) [37,38,39] [8,9,10] (λ _ _ st42=>wpList_nil (za (wp_region_list ?_)))
   refine st42.nmB (s:=9) 0 rfl rfl iI [8,10,12] rfl (λ b43 st43=>?_)
   refine st43.segB 3 (sc rfl (oM rfl (tp rfl))<|sc rfl (oM rfl (tp rfl))<|sc rfl (yc rfl kT80 (tp rfl))<|.nil) [37,38,39,45] [(8,2),(9,0),(10,1),(43,1),(44,0)] (λ _ _ st44=>?_)
   obtain⟨v46,p46,h47⟩:=bs h36
   refine st44.cSF (l:=[.tmp 45]) 0 (st44.bkN (s:=9) rfl iI) rfl rfl kN101 ((st44.st.has 44 _ rfl).1.trans (st44.st.has 9 _ rfl).1.symm) (by simp) (.cons (tp rfl) .nil) (Qu hR p46) [37,38,39] rfl [8,10,43] rfl rfl (by decide) (λ G45 _ _ _ st45=>?_)
   have st48:=st45.gs (Gs':=[G45,oneB q30_1,oneB q30_2,oneB (some b39)]) rfl
   refine st48.segC 1 [37,38,39,47] [(8,2),(9,0),(10,1),(43,1)] (λ _ _ st49=>?_)
   obtain⟨v52,p52,h53⟩:=bs h47
   refine st49.apA 1 xz p52 [37,38,39] [8,9] (λ g51 _ _ _ st51=>?_)
   have st54:=st51.gn
   refine st54.segA 1 [37,38,39] [(8,2),(9,0),(10,1)] (λ _ _ st55=>wpList_nil (zf (za ?_)))
   obtain⟨v56,p56,h57⟩:=bs h53
   refine st55.rgA [37,38,39] [(8,2),(9,0),(10,1)] (λ _ _ st58=>?_)
   have st59:=st58.unm (s:=9) 0 rfl rfl iI [8,10] rfl
   refine za ?_
   exact fl h57
  refine za ?_
  have h60:=lo h34 hx30
  cases h60
  exact fx
 rintro a27 w27 ⟨M27,q27_0,q27_1,q27_2,q27_3,st27⟩
 have h61:=k27
 have st62:=st27.frz 1 (s:=10) rfl rfl [] rfl [8,9] rfl
 have st63:=st62.frzB (s:=9) 0 rfl (by simp) iI [10] rfl [8] rfl rfl
 refine wp_seq (wp_region_list ?_)
 obtain⟨v64,p64,h65⟩:=bsW h61 WW
 refine st63.segA 3 [52] [(8,2)] (λ _ _ st66=>?_)
 refine st66.stA 8 2 FldS.id (tp rfl) [] [] (λ _ _ st68=>wpList_nil (za (wp_ret ?_)))
 exact st68.ret_box rfl kT37 rfl h65
end Go.Proofs.YtpmkkijamfgaeaaGreatDoor
