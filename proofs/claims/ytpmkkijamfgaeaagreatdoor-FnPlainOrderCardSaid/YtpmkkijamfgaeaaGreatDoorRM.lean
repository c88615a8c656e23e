import Derived.Test.YtpmkkijamfgaeaaGreatDoorRB
import Derived.Test.YtpmkkijamfgaeaaGreatDoorRO
import Derived.Test.YtpmkkijamfgaeaaGreatDoorRH
namespace Go.Proofs.YtpmkkijamfgaeaaGreatDoor
open Go.RowKit Tryz
attribute [local irreducible] OpRel OpdR
set_option maxRecDepth 10000
set_option maxHeartbeats 1600000
theorem kF71_1:fldB prog 71 1 1=true:=by kernel_rfl
theorem kF94_3:fldB prog 94 3 3=true:=by kernel_rfl
theorem kT91:tyB prog 91 false 1=true:=by kernel_rfl
theorem kF94_8:fldB prog 94 8 8=true:=by kernel_rfl
theorem kN68:fnB prog 68=true:=by kernel_rfl
theorem kN120:fnB prog 120=true:=by kernel_rfl
theorem kB98:bldB prog 98 [1,1,1,1,1,1]=true:=by kernel_rfl
theorem kC98:ZR prog 98 [1,1,1,1,1,1]=some zpGMod:=by kernel_rfl
theorem kI92:sliB prog 92 95 1=true:=by kernel_rfl
theorem kY92:zlB prog 92=true:=by kernel_rfl
theorem kE92:elB prog 92 95 1 8=true:=by kernel_rfl
theorem Qv:∀ {M:Nat->Prop} {look:Nat->Option Dt} {o:Oper} {q0 q1:Operand} {y0:Int} {y1:Int},o.op=.build 154 #[(0,q0),(1,q1)]->OpdR M look q0 (dt y0)->OpdR M look q1 (dt y1)->OpRel prog M look o (dt (⟨y0,y1⟩:GVal)):=@λ _ _ _ q0 q1 y0 y1 ho h0 h1=>yA (parts:=[(0,q0),(1,q1)]) (ns:=[1,1]) (zs:=zpGVal) rfl ho kB154 kC154 (λ w a hl=>by
 intro p hp;simp only[List.mem_cons,List.not_mem_nil,or_false] at hp
 rcases hp with rfl | rfl
 ·
  exact⟨(by decide:0<2),Rep.len (α:=Int) (OpdR.cells h0 hl)⟩
 ·
  exact⟨(by decide:1<2),Rep.len (α:=Int) (OpdR.cells h1 hl)⟩) (λ w a hl=>GVal.parts (x:=(⟨y0,y1⟩:GVal)) (OpdR.cells h0 hl) (OpdR.cells h1 hl))
theorem kN122:fnB prog 122=true:=by kernel_rfl
theorem kN107:fnB prog 107=true:=by kernel_rfl
theorem kN106:fnB prog 106=true:=by kernel_rfl
theorem kN203:fnB prog 203=true:=by kernel_rfl
theorem kF94_5:fldB prog 94 5 5=true:=by kernel_rfl
theorem kF154_1:fldB prog 154 1 1=true:=by kernel_rfl
instance iF94_4MaC:FldO prog 94 4 4:=⟨Jn⟩
instance iF94_5MaC:FldO prog 94 5 5:=⟨kF94_5⟩
instance iF94_8MaC:FldO prog 94 8 8:=⟨kF94_8⟩
instance iF98_0MaC:FldO prog 98 0 0:=⟨zbU⟩
instance iF98_3MaC:FldO prog 98 3 3:=⟨kF98_3⟩
instance iF98_4MaC:FldO prog 98 4 4:=⟨kF98_4⟩
instance iF98_5MaC:FldO prog 98 5 5:=⟨zbV⟩
structure Rec where
 impl_machine_load1:Machine->Str->Option (Machine×Int×Int)
 impl_machine_body:Machine->Int->Spec->Option (Machine×Int)
 impl_machine_do:Machine->Int->Stmt->Option (Machine×Int)
def Rec.no:Rec:=⟨λ _ _=>none,λ _ _ _=>none,λ _ _ _=>none⟩
structure Rec.ok(R:Rec):Prop where
 impl_machine_load1:∀ {x0:Machine} {x1:Str} {r:Machine×Int×Int},R.impl_machine_load1 x0 x1=some r->∀ {ps:List (Nat×Nat)},FnS prog 68 (oMac ps) ⟨x0⟩ [dt x1] ⟨r.1⟩ (.frz (dtup [dt r.2.1,dt r.2.2]))
 impl_machine_body:∀ {x0:Machine} {x1:Int} {x2:Spec} {r:Machine×Int},R.impl_machine_body x0 x1 x2=some r->∀ {ps:List (Nat×Nat)},FnS prog 121 (oMac ps) ⟨x0⟩ [dt x1,dt x2] ⟨r.1⟩ (.frz (dt r.2))
 impl_machine_do:∀ {x0:Machine} {x1:Int} {x2:Stmt} {r:Machine×Int},R.impl_machine_do x0 x1 x2=some r->∀ {ps:List (Nat×Nat)},FnS prog 163 (oMac ps) ⟨x0⟩ [dt x1,dt x2] ⟨r.1⟩ (.frz (dt r.2))
theorem Rec.no_ok:Rec.no.ok:=⟨(λ h=>nomatch h),(λ h=>nomatch h),(λ h=>nomatch h)⟩
def yi(R:Rec)(x1:Int)(v20:List Stmt)(s24:Machine×Int×Int):Option ((Machine×Int×Int)⊕(Machine×Int)):=
if(cmpI .lss s24.2.2 (v20.length:Int))=true then((atI v20 s24.2.2).bind λ v29=>
if(cmpI .eql s24.1.left (0:Int))=true then(some (.inr (s24.1,(6:Int))))
else((i64 (s24.1.left - (1:Int))).bind λ v41=>
(R.impl_machine_do ({ s24.1 with left:=v41 }) x1 v29).bind λ v47=>
if(cmpI .neq v47.2 (0:Int))=true then(some (.inr (v47.1,v47.2)))
else((i64 (s24.2.2+(1:Int))).bind λ v54=>
some (.inl (v47.1,v47.2,v54)))))
else(some (.inr (s24.1,s24.2.1)))
def jm(R:Rec)(x0:Machine)(x1:Int)(x2:Spec):Option (Machine×Int):=
(atI x0.modules x1).bind λ _v3=>
(x0.modules[x1.toNat]?).bind λ v5=>
(yD x0 (0:Int) v5.x.name).bind λ v12=>
Option.bind (α:=Machine×Int) (if(cmpI .geq x2.file (0:Int))=true then((atI v12.t.files x2.file).bind λ v19=>
(v12.load.g v19).bind λ v20=>
zK (λ s24=>yi R x1 v20 s24) (v12,(0:Int),(0:Int)))
else(some (v12,(0:Int)))) λ o15=>
Option.bind (α:=Machine) (if(cmpI .eql o15.2 (0:Int))=true then((yD o15.1 (1:Int) v5.x.name).bind λ v65=>
some v65)
else((yD o15.1 (2:Int) v5.x.name).bind λ v69=>
some v69)) λ o59=>
some (o59,o15.2)
theorem QM{R:Rec}(hR:R.ok){ps:List (Nat×Nat)}{x0:Machine}{x1:Int}{x2:Spec}{r:Machine×Int}(h:jm R x0 x1 x2=some r):FnS prog 121 (oMac ps) ⟨x0⟩ [dt x1,dt x2] ⟨r.1⟩ (.frz (dt r.2)):=by
 unfold jm at h
 refine fnSB (fn:=f121) 0 2 func121 rfl (oD rfl) rfl (λ M G w0 b0 _ st0=>?_)
 refine st0.sqA [1,5] [(0,0)] (λ _ _ st1=>?_)
 obtain⟨v3,p3,v5,p5,h7⟩:=bsB h
 refine st1.hdF (s:=0) 0 true (λ _=>((PV.root.box rfl).fld owMachine.f4)) rfl rfl iI [] rfl (λ g2 A2 _ hA2 st2=>?_)
 refine st2.mintP (s:=0) 0 rfl rfl iI (Zu (owMachine.impE4 (ZU (zA (yt p3).2)))) [] rfl (λ b4 st4=>?_)
 refine st4.sqB (sP 5 (r:=by exact sc rfl (xIa (g:=g2) rfl kS92 (tp rfl) (tp rfl) rfl (λ h=>hA2 h rfl) p3)<|sc rfl (xLdP (sb:=0) ((PV.root.box rfl).fld owMachine.f4) (.head _) rfl (λ h=>hA2 h rfl) (.head _) (yt p3).2 (Nat.mul_one _) rfl kT95 (tp rfl) rfl)<|sP 2 (r:=by exact sc rfl (xLf (sb:=0) ((((PV.root.box rfl).fld owMachine.f4).rowP (.head _) p5).fld owGModR.f0) rfl kT9 (tp rfl) rfl)<|segC))) [1,5,7] [(0,0)] (λ _ _ st8=>?_)
 have st9:=st8.ncf (s:=0) 0 rfl rfl iI [] rfl
 refine wp_seq (wp_region_list ?_)
 refine st9.segC 2 [1,5,7,21,22] [(0,0)] (λ _ _ st10=>?_)
 obtain⟨v12,p12,h13⟩:=bs h7
 refine st10.cNA 0 0 (FnS.any (jZ p12)) [1,5,7] [] (λ _ _ _ _ st11=>wpList_nil (za ?_))
 refine st11.sqA [1,5,7,8] [(0,0)] (λ _ _ st14=>?_)
 obtain⟨o15,p15,k15⟩:=bs h13
 refine zi (λ a w=>∃ M1 q15_0 q15_1,Sx (Frm.chg w0 G) 74 M M1 [q15_0,oneB q15_1] [(7,dt v5.x.name),(8,dt o15.2)] [(0,0,dnm (oMac ((x1.toNat,b4)::ps)) q15_0 ⟨o15.1⟩ (.pointer (some ⟨b0,0,none⟩)) [])] a w) ?_ ?_
 ·
  refine st14.sqA [1,5,7,8,26] [(0,0)] (λ _ _ st16=>?_)
  refine st16.cs rfl p15 (λ _ h17=>wp_seq ?_) (λ _ h18=>wp_skip (za ?_))
  ·
   obtain⟨v19,p19,v20,p20,h22⟩:=bsB h17
   refine st16.drA (D:=[_,_,_,_,_,_,_,_,_,_,_,_,_,_,_,_]) zJ [[(0,nS)],[(27,0)],[(28,1)],[(29,2),(0,nS)],[(0,nS)],[(31,4)],[(32,5)],[(33,6)],[(34,7),(0,nS)],[(5,nS)],[(36,9)],[(35,8),(37,10)],[(38,11)],[(30,3),(39,12)],[(40,13)],[]] [1,7,8,40,41,42] [(0,0)] (λ _ _ st23=>?_) (hs:=rc rfl rfl (oM rfl (zR rfl))<|rc rfl rfl (xNc rfl (tp rfl))<|rc rfl rfl (xFa rfl kF94_3 (tp rfl))<|rc rfl rfl (OpRel.fnv (xLf (sb:=0) ((PV.root.box rfl).fld owMachine.f3) rfl kT91 (tp rfl) rfl))<|rc rfl rfl (oM rfl (zR rfl))<|rc rfl rfl (xNc rfl (tp rfl))<|rc rfl rfl (xFa rfl kF94_0 (tp rfl))<|rc rfl rfl (xFa rfl qg (tp rfl))<|rc rfl rfl (xLf (sb:=0) (((PV.root.box rfl).fld owMachine.f0).fld Tree.z0) rfl kT23 (tp rfl) rfl)<|rc rfl rfl (zH Spec.fld1 rfl kF71_1 (tp rfl))<|rc rfl rfl (zr rfl kT3 (tp rfl))<|rc rfl rfl (xIdx rfl kS23 (tp rfl) (tp rfl) p19)<|rc rfl rfl (zr rfl kT51 (tp rfl))<|rc rfl rfl (xCaF1 rfl (tp rfl) (tp rfl) p20)<|rc rfl rfl (WE rfl kL49 (tp rfl))<|rc rfl rfl (oM rfl cI)<|.nil)
   refine za (wp_block ?_)
   refine zG h22 (λ s24 a w=>∃ M1 q24_0 q24_1,Sx (Frm.chg w0 G) 74 M M1 [q24_0,oneB q24_1] [(1,dt x1),(7,dt v5.x.name),(8,dt s24.2.1),(40,dt v20),(41,dt (v20.length:Int)),(42,dt s24.2.2)] [(0,0,dnm (oMac ((x1.toNat,b4)::ps)) q24_0 ⟨s24.1⟩ (.pointer (some ⟨b0,0,none⟩)) [])] a w) fx ?_
   rintro s24 z24 a24 w24 ⟨M24,q24_0,q24_1,st24⟩ hs24 hx24
   have h25:yi R x1 v20 s24=some z24:=hs24
   unfold yi at h25
   refine st24.sqA [1,7,8,40,41,42,43] [(0,0)] (λ _ _ st26=>wp_seq ?_)
   refine st26.cs rfl h25 (λ _ h27=>wp_skip (za (wp_seq (wp_block (wp_seq (wp_region_list ?_)))))) (λ _ h28=>wp_exit (zh (zh (zy ?_))))
   ·
    obtain⟨v29,p29,h30⟩:=bs h27
    refine st26.segA 2 [1,7,40,41,42,45] [(0,0)] (λ _ _ st31=>?_)
    refine st31.alA 1 zan [1,7,40,41,42,45] [0] (λ b33 _ _ _ st33=>?_)
    refine st33.stA 10 1 FldS.id (tp rfl) [1,7,40,41,42] [0] (λ _ _ st35=>wpList_nil (za (wp_seq ?_)))
    refine st35.sqB (sP 3 (r:=by exact sc rfl (xLf (sb:=0) ((PV.root.box rfl).fld owMachine.f8) rfl kT3 (tp rfl) rfl)<|segC)) [1,7,40,41,42,50] [(0,0),(10,1)] (λ _ _ st36=>?_)
    refine st36.cs rfl h30 (λ _ h37=>?_) (λ _ h38=>wp_skip (za (wp_seq (wp_region_list ?_))))
    ·
     refine st36.sqA [7,8] [(0,0)] (λ _ _ st39=>?_)
     refine wp_exit (zh (exit_out (by decide) (zh (zh (zy ?_)))))
     refine za ?_
     have h40:=lo h37 hx24
     cases h40
     exact fx
    obtain⟨v41,p41,h42⟩:=bs h38
    refine st36.segB 7 (sP 3 (r:=by exact sc rfl (xLf (sb:=0) ((PV.root.box rfl).fld owMachine.f8) rfl kT3 (tp rfl) rfl)<|segC)) [1,7,40,41,42,55,57] [(0,0),(10,1)] (λ _ _ st43=>?_)
    refine st43.sfA 0 0 ((PV.root.box rfl).fld owMachine.f8) (tp rfl) (tp rfl) [1,7,40,41,42] [10] (λ _ st44=>wpList_nil (za (wp_seq (wp_region_list ?_))))
    refine st44.segC 3 [1,7,40,41,42,58,59,60] [(0,0)] (λ _ _ st45=>?_)
    obtain⟨v47,p47,h48⟩:=bs h42
    refine st45.cNA 0 0 (hR.impl_machine_do p47) [1,7,40,41,42] [] (λ _ _ _ _ st46=>?_)
    refine st46.segA 1 [1,7,8,40,41,42] [(0,0)] (λ _ _ st49=>wpList_nil (za ?_))
    refine st49.sqA [1,7,8,40,41,42,63] [(0,0)] (λ _ _ st50=>?_)
    refine st50.cs rfl h48 (λ _ h51=>?_) (λ _ h52=>wp_skip (zf (za ?_)))
    ·
     refine wp_exit (exit_out (by decide) (zh (zh (zy ?_))))
     refine za ?_
     have h53:=lo h51 hx24
     cases h53
     exact fx
    obtain⟨v54,p54,h55⟩:=bs h52
    refine st50.rgA [1,7,8,40,41,42] [(0,0)] (λ _ _ st56=>za ?_)
    exact fl h55
   refine za ?_
   have h57:=lo h28 hx24
   cases h57
   exact fx
  cases h18
  exact fx
 rintro a15 w15 ⟨M15,q15_0,q15_1,st15⟩
 have h58:=k15
 obtain⟨o59,p59,k59⟩:=bs h58
 refine zi (λ a w=>∃ M1 q59_0 q59_1,Sx (Frm.chg w0 G) 74 M M1 [q59_0,oneB q59_1] [(8,dt o15.2)] [(0,0,dnm (oMac ((x1.toNat,b4)::ps)) q59_0 ⟨o59⟩ (.pointer (some ⟨b0,0,none⟩)) [])] a w) ?_ ?_
 ·
  refine st15.sqA [7,8,66] [(0,0)] (λ _ _ st60=>?_)
  refine st60.cs rfl p59 (λ _ h61=>wp_region_list ?_) (λ _ h62=>wp_region_list ?_)
  ·
   refine st60.segC 2 [8,67,68] [(0,0)] (λ _ _ st63=>?_)
   obtain⟨v65,p65,h66⟩:=bs h61
   refine st63.cNA 0 0 (FnS.any (jZ p65)) [8] [] (λ _ _ _ _ st64=>wpList_nil (za ?_))
   cases h66
   exact fx
  refine st60.segC 2 [8,70,71] [(0,0)] (λ _ _ st67=>?_)
  obtain⟨v69,p69,h70⟩:=bs h62
  refine st67.cNA 0 0 (FnS.any (jZ p69)) [8] [] (λ _ _ _ _ st68=>wpList_nil (za ?_))
  cases h70
  exact fx
 rintro a59 w59 ⟨M59,q59_0,q59_1,st59⟩
 have h71:=k59
 refine st59.sqA [6] [(0,0)] (λ _ _ st72=>wp_ret ?_)
 have st73:=st72.asA 0 0 (xO (owMachine.imp4 (xb (λ _ h=>(.tail _ h))))) []
 exact st73.rsF (s:=0) 0 rfl rfl rfl iI (bxr h71) y9
def wS(R:Rec)(x0:Machine)(x1:Str):Option (Machine×Int×Int):=
(zW x0 x1).bind λ v2=>
if(cmpI .geq v2 (0:Int))=true then((wI x0 v2).bind λ v10=>
some (v10.1,v10.2,(0:Int)))
else((yK x1).bind λ v14=>
Option.bind (α:=Machine⊕(Machine×Int×Int)) (if(decide (v14≠(⟨[]⟩:Str)))=true then((R.impl_machine_load1 x0 v14).bind λ v23=>
if(cmpI .neq v23.2.2 (0:Int))=true then(some (.inr (v23.1,(-1:Int),v23.2.2)))
else((zW v23.1 x1).bind λ v32=>
if(cmpI .geq v32 (0:Int))=true then((wI v23.1 v32).bind λ v40=>
some (.inr (v40.1,v40.2,(0:Int))))
else(some (.inl v23.1))))
else(some (.inl x0))) (Sum.elim (λ b17=>
(yR b17 x1).bind λ v48=>
if(cmpI .eql v48.2.kind (0:Int))=true then(some (v48.1,(-1:Int),(1:Int)))
else((appO 8 [] v48.2.roots).bind λ v63=>
(appO 8 v48.1.modules [⟨(⟨x1,v48.2.kind,v63,true,false,[]⟩:GMod)⟩]).bind λ v84=>
(R.impl_machine_body ({ v48.1 with modules:=v84 }) (v48.1.modules.length:Int) v48.2).bind λ v93=>
if(cmpI .neq v93.2 (0:Int))=true then((v93.1.modules[v48.1.modules.length]?).bind λ v100=>
some ({ v93.1 with modules:=(v93.1.modules.set v48.1.modules.length ⟨{ v100.x with cached:=false }⟩) },(-1:Int),v93.2))
else((v93.1.modules[v48.1.modules.length]?).bind λ v106=>
Option.bind (α:=Machine) ((zW ({ v93.1 with modules:=(v93.1.modules.set v48.1.modules.length ⟨{ v106.x with done:=true }⟩) }) v14).bind λ v111=>
if(decide (v14≠(⟨[]⟩:Str))&&cmpI .geq v111 (0:Int))=true then((atI (v93.1.modules.set v48.1.modules.length ⟨{ v106.x with done:=true }⟩) v111).bind λ _v118=>
(jr x1).bind λ v120=>
((v93.1.modules.set v48.1.modules.length ⟨{ v106.x with done:=true }⟩)[v111.toNat]?).bind λ v125=>
(yc v125.x v120 (⟨(1:Int),(v48.1.modules.length:Int)⟩:GVal)).bind λ v127=>
some ({ v93.1 with modules:=((v93.1.modules.set v48.1.modules.length ⟨{ v106.x with done:=true }⟩).set v111.toNat ⟨v127⟩) }))
else(some ({ v93.1 with modules:=(v93.1.modules.set v48.1.modules.length ⟨{ v106.x with done:=true }⟩) }))) λ o110=>
some (o110,(v48.1.modules.length:Int),(0:Int))))) some))
theorem J3{R:Rec}(hR:R.ok){ps:List (Nat×Nat)}{x0:Machine}{x1:Str}{r:Machine×Int×Int}(h:wS R x0 x1=some r):FnS prog 68 (oMac ps) ⟨x0⟩ [dt x1] ⟨r.1⟩ (.frz (dtup [dt r.2.1,dt r.2.2])):=by
 unfold wS at h
 refine fnSB (fn:=f68) 5 7 func68 rfl (oD rfl) rfl (λ M G w0 b0 _ st0=>?_)
 refine st0.sqA [1] [(0,5)] (λ _ _ st1=>wp_seq ?_)
 obtain⟨v2,p2,h3⟩:=bs h
 refine st1.sqB (sP 2 (r:=by exact sc rfl (we (l:=[.tmp 16,.tmp 17]) st1.ob.sub rfl kN118 (.cons (lendA (sb:=0) st1.ob 5 (tp rfl) rfl iI) (.cons (jU st1.ob.sub (tp rfl)) .nil)) (xB p2) y9)<|segC)) [1,6] [(0,5)] (λ _ _ st4=>?_)
 refine st4.sqA [1,6,20] [(0,5)] (λ _ _ st5=>?_)
 refine st5.cs rfl h3 (λ _ h6=>wp_seq (wp_region_list ?_)) (λ _ h7=>wp_skip (za ?_))
 ·
  refine st5.segC 2 [21,22] [(0,5)] (λ _ _ st8=>?_)
  obtain⟨v10,p10,h11⟩:=bs h6
  refine st8.cNA 5 0 (Wn p10) [] [] (λ G9 _ _ _ st12=>?_)
  refine st12.segA 2 [4,5] [(0,5)] (λ _ _ st13=>wpList_nil (za ?_))
  refine wp_ret (ze ?_)
  exact st13.rs2 (s:=0) 5 rfl rfl rfl rfl iI (bxr h11)
 obtain⟨v14,p14,h15⟩:=bsW h7 qY
 refine st5.sqA [1,7] [(0,5)] (λ _ _ st16=>?_)
 obtain⟨o17,p17,k17⟩:=bs h15
 refine zi (λ a w=>∃ b17,o17=.inl b17/\(∃ M1 q17_0 q17_1 q17_2 q17_3 q17_4 q17_5 q17_6,Sx (Frm.chg w0 G) 111 M M1 [oneB q17_0,q17_1,q17_2,q17_3,q17_4,q17_5,oneB q17_6] [(1,dt x1),(7,dt v14)] [(0,5,dnm (oMac ps) q17_5 ⟨b17⟩ (.pointer (some ⟨b0,0,none⟩)) [])] a w)) ?_ ?_
 ·
  refine st16.sqA [1,7,27] [(0,5)] (λ _ _ st18=>?_)
  refine st18.cs rfl p17 (λ _ h19=>wp_seq (wp_seq (wp_region_list ?_))) (λ _ h20=>wp_skip (za ?_))
  ·
   refine st18.segC 2 [1,7,29,30] [(0,5)] (λ _ _ st21=>?_)
   obtain⟨v23,p23,h24⟩:=bs h19
   refine st21.cNA 5 0 (hR.impl_machine_load1 p23) [1,7] [] (λ G22 _ _ _ st25=>?_)
   refine st25.segA 5 [1,7,9] [(0,5)] (λ _ _ st26=>wpList_nil (za ?_))
   refine st26.sqA [1,7,9,35] [(0,5)] (λ _ _ st27=>?_)
   refine st27.cs rfl h24 (λ _ h28=>?_) (λ _ h29=>wp_skip (za ?_))
   ·
    refine st27.sqA [4,5] [(0,5)] (λ _ _ st30=>wp_ret (ze (ze ?_)))
    have h31:=jo h28 k17
    exact st30.rs2 (s:=0) 5 rfl rfl rfl rfl iI (bxr h31)
   obtain⟨v32,p32,h33⟩:=bs h29
   refine st27.sqB (sP 2 (r:=by exact sc rfl (we (l:=[.tmp 37,.tmp 38]) st27.ob.sub rfl kN118 (.cons (lendA (sb:=0) st27.ob 5 (tp rfl) rfl iI) (.cons (jU st27.ob.sub (tp rfl)) .nil)) (xB p32) y9)<|segC)) [1,7,10] [(0,5)] (λ _ _ st34=>?_)
   refine st34.sqA [1,7,10,41] [(0,5)] (λ _ _ st35=>?_)
   refine st35.cs rfl h33 (λ _ h36=>wp_seq (wp_region_list ?_)) (λ _ h37=>wp_skip (za ?_))
   ·
    refine st35.segC 2 [42,43] [(0,5)] (λ _ _ st38=>?_)
    obtain⟨v40,p40,h41⟩:=bs h36
    refine st38.cNA 5 0 (Wn p40) [] [] (λ G39 _ _ _ st42=>?_)
    refine st42.segA 2 [4,5] [(0,5)] (λ _ _ st43=>wpList_nil (za ?_))
    refine wp_ret (ze ?_)
    have h44:=jo h41 k17
    exact st43.rs2 (s:=0) 5 rfl rfl rfl rfl iI (bxr h44)
   exact fl h37
  exact fl h20
 rintro a17 w17 ⟨b17,rfl,⟨M17,q17_0,q17_1,q17_2,q17_3,q17_4,q17_5,q17_6,st17⟩⟩
 have h45:=jn k17
 refine wp_seq (wp_region_list ?_)
 refine st17.segC 2 [1,7,45,46] [(0,5)] (λ _ _ st46=>?_)
 obtain⟨v48,p48,h49⟩:=bs h45
 refine st46.cNA 5 0 (XR p48) [1,7] [] (λ G47 _ _ _ st50=>?_)
 refine st50.alA 6 JX [1,7,47] [0] (λ b52 _ _ _ st52=>?_)
 have st53:=st52.gn
 refine st53.stA 11 6 FldS.id (tp rfl) [1,7] [0] (λ _ _ st55=>?_)
 have st56:=st55.frzX 6 (s:=11) rfl rfl [1,7] rfl [0] rfl
 have st57:=st56.gn
 refine wpList_nil (za (wp_seq ?_))
 refine st57.sqA [1,7,11,50] [(0,5)] (λ _ _ st58=>?_)
 refine st58.cs rfl h49 (λ _ h59=>?_) (λ _ h60=>wp_skip (za (wp_seq ?_)))
 ·
  refine st58.sqA [4,5] [(0,5)] (λ _ _ st61=>wp_ret (ze ?_))
  exact st61.rs2 (s:=0) 5 rfl rfl rfl rfl iI (bxr h59)
 have st62:=st58.rst 0 (by simp) [1,7,11,50] rfl [0] rfl
 obtain⟨v63,p63,h64⟩:=bs h60
 refine st62.drnA (D:=[_,_,_,_,_,_,_,_]) zJ 8 [[(1,nS)],[(11,nS)],[(52,1)],[],[(11,nS)],[(55,4)],[(54,3),(56,5)],[],[(51,0),(53,2),(57,6),(58,7)],[(59,8)],[(60,9)]] [1,7,11,51,53,57] [(0,5),(58,0)] (λ _ _ st65=>?_) (hs:=rc rfl rfl (oM rfl (tp rfl))<|rc rfl rfl (zH Spec.fld0 rfl kF71_0 (tp rfl))<|rc rfl rfl (zr rfl kT3 (tp rfl))<|rc rfl rfl (yZ (α:=Int) (e:=3) rfl kS26)<|rc rfl rfl (zH Spec.fld2 rfl kF71_2 (tp rfl))<|rc rfl rfl (zr rfl kT26 (tp rfl))<|rc rfl rfl (op_app0 rfl kE26 (tp rfl) (tp rfl) p63)<|rc rfl rfl (yZ (α:=GAttr) (e:=189) rfl kS96)<|.nil)
 have st67:=st65.tipW (s:=58) 0 rfl rfl iE [0] rfl
 refine st67.bldW (ow:=(owGModR oAtt)) (parts:=[(0,.tmp 51),(1,.tmp 53),(2,.tmp 57),(3,.const (.bool true)),(5,.tmp 58)]) (ns:=[1,1,1,1,1,1]) (zs:=zpGMod) (x:=(⟨x1,v48.2.kind,v63,true,false,[]⟩:GMod)) 1 [0] rfl rfl rfl kB98 kC98 (by
 intro p hp;simp only[List.mem_cons,List.not_mem_nil,or_false] at hp
 rcases hp with rfl | rfl | rfl | rfl | rfl
 ·
  exact⟨by decide,Rep.len (α:=Str) (OpdR.cells (tp rfl) (λ s y hs=>st67.st.has s y hs))⟩
 ·
  exact⟨by decide,Rep.len (α:=Int) (OpdR.cells (tp rfl) (λ s y hs=>st67.st.has s y hs))⟩
 ·
  exact⟨by decide,Rep.len (α:=List Int) (OpdR.cells (tp rfl) (λ s y hs=>st67.st.has s y hs))⟩
 ·
  exact⟨by decide,rfl⟩
 ·
  exact⟨by decide,Ow.len _ (X1 (st67.st.has 58 _ rfl))⟩) (((owGModR oAtt)).more (owGModR.mk (x:=(⟨x1,v48.2.kind,v63,true,false,[]⟩:GMod)) (OpdR.cells (tp rfl) (λ s y hs=>st67.st.has s y hs)) (OpdR.cells (tp rfl) (λ s y hs=>st67.st.has s y hs)) (OpdR.cells (tp rfl) (λ s y hs=>st67.st.has s y hs)) (OpdR.cells cB (λ s y hs=>st67.st.has s y hs)) ⟨rfl,trivial⟩ (X1 (st67.st.has 58 _ rfl))) (λ b=>(λ hb=>⟨0,by simp,hb⟩))) (by simp) [1,7,11] rfl [0] rfl rfl rfl (λ G66 _ _ st66=>?_)
 have st68:=st66.gs (Gs':=[oneB none,G66,q17_2,q17_3,q17_4,G47,oneB none]) rfl
 refine st68.boxW 4 1 rfl rfl rfl (by simp) (by simp) (by decide) iI [1,7,11] rfl [0] rfl rfl rfl (λ b69 _ _ _ _ st69=>?_)
 have st70:=st69.gn
 refine st70.segA 1 [1,7,11] [(0,5),(12,4)] (λ _ _ st71=>wpList_nil (za ?_))
 refine st71.hdF (s:=0) 5 true (λ _=>((PV.root.box rfl).fld owMachine.f4)) rfl rfl iI [12] rfl (λ g72 A72 _ hA72 st72=>?_)
 refine st72.sqB (sP 4 (r:=by exact sc rfl (xLe rfl kL92 (tp rfl))<|segC)) [1,7,11,13] [(0,5),(12,4)] (λ _ _ st73=>?_)
 have st74:=st73.ncf (s:=0) 5 rfl rfl iI [12] rfl
 refine wp_seq (wp_region_list ?_)
 refine st74.hdF (s:=0) 5 true (λ _=>((PV.root.box rfl).fld owMachine.f4)) rfl rfl iI [12] rfl (λ g75 A75 _ hA75 st75=>?_)
 refine st75.segB 6 (sc rfl (oM rfl (zR rfl))<|sc rfl (oM rfl (zR rfl))<|sc rfl (xNc rfl (tp rfl))<|sc rfl (xFa rfl Jn (tp rfl))<|sc rfl (xLc (sb:=0) (.head _) rfl rfl rfl kT92 (tp rfl) rfl)<|sc rfl (oM rfl (tp rfl))<|.nil) [1,7,11,13,66,70] [(0,5),(12,4),(71,4)] (λ _ _ st76=>?_)
 have st78:=st76.addL (s:=12) (y:=dis (.pointer (some ⟨b69,0,none⟩))) (st76.st.has 12 _ rfl).1 rfl
 have st79:=st78.tuck (s:=71) 182 4 rfl iI rfl (by decide) [0] rfl
 refine st79.litW (oe:=(Ow.pin (owGModR oAtt))) (opds:=[.tmp 71]) (xs:=[⟨b69,(⟨x1,v48.2.kind,v63,true,false,[]⟩:GMod)⟩]) 2 [4] rfl rfl kI92 kY92 rfl rfl (by decide) rfl (by decide) (rowW_lit (pin_cells (st79.st.has 71 _ rfl) (st79.st.has 182 _ rfl)) (λ b hb=>⟨4,by simp,hb⟩)) (λ q hq=>by
 simp only[List.mem_cons,List.not_mem_nil,or_false] at hq
 subst hq
 exact Ow.len _ (pin_cells (st79.st.has 71 _ rfl) (st79.st.has 182 _ rfl))) (by simp) [1,7,11,12,13,66,70,71] rfl [0] rfl rfl rfl (by decide) (λ G77 _ _ _ st77=>?_)
 have st80:=st77.gs (Gs':=[oneB none,oneB none,G77,q17_3,oneB none,G47,oneB none]) rfl
 have st82:=st80.asA 0 5 (xO (owMachine.imp4 (imp_lax (b:=b69)))) [72]
 refine st82.mvG (s:=70) (sb:=0) 5 3 ((PV.root.box rfl).fld owMachine.f4) (.head _) rfl (wi rfl rfl) rfl (by simp) (by simp) (by decide) rfl iI [1,7,11,12,13,66,71] rfl [72] rfl rfl rfl rfl (λ _ H83 st83=>?_)
 obtain⟨v84,p84,h85⟩:=bs h64
 refine st83.appP 3 2 rfl rfl kE92 rfl rfl rfl (by simp) (by simp) (by decide) iI iI p84 [1,7,11,12,13,66,71] rfl [0] rfl rfl rfl (λ _ _ _ _ hn81 st81=>?_)
 have st86:=st81.gn
 refine st86.segC 2 [1,7,11,12,13,75] [(0,5),(73,3)] (λ _ _ st87=>?_)
 refine st87.shA 0 73 5 3 (tp rfl) [1,7,11,12,13] [] (λ _ _ st88=>?_)
 have st89:=st88.asA 0 5 (xO (owMachine.imp4 (imp_strict hn81))) []
 have st90:=st89.gn
 refine wpList_nil (za (wp_seq (wp_seq (wp_region_list ?_))))
 refine st90.segC 3 [1,7,12,13,76,77,78] [(0,5)] (λ _ _ st91=>?_)
 obtain⟨v93,p93,h94⟩:=bs h85
 refine st91.cNA 5 0 (hR.impl_machine_body p93) [1,7,12,13] [] (λ G92 _ _ _ st95=>?_)
 refine st95.segA 1 [1,7,12,13,14] [(0,5)] (λ _ _ st96=>wpList_nil (za ?_))
 refine st96.sqA [1,7,12,13,14,81] [(0,5)] (λ _ _ st97=>?_)
 refine st97.cs rfl h94 (λ _ h98=>wp_seq (wp_region_list ?_)) (λ _ h99=>wp_skip (za (wp_seq (wp_region_list ?_))))
 ·
  obtain⟨v100,p100,h101⟩:=bs h98
  refine st97.segC 3 [14,84] [(0,5)] (λ _ _ st102=>?_)
  refine st102.sfA 0 5 ((((PV.root.box rfl).fld owMachine.f4).rowP (.head _) p100).fld owGModR.f3) (tp rfl) cB [14] [] (λ _ st103=>wpList_nil (za ?_))
  refine st103.sqA [4,5] [(0,5)] (λ _ _ st104=>wp_ret (ze ?_))
  have st105:=st104.asA 0 5 (xO (owMachine.imp4 (xb (λ _ h=>(.tail _ h))))) []
  exact st105.rs2 (s:=0) 5 rfl rfl rfl rfl iI (bxr h101)
 obtain⟨v106,p106,h107⟩:=bs h99
 refine st97.segC 3 [1,7,13,88] [(0,5)] (λ _ _ st108=>?_)
 refine st108.sfA 0 5 ((((PV.root.box rfl).fld owMachine.f4).rowP (.head _) p106).fld owGModR.f4) (tp rfl) cB [1,7,13] [] (λ _ st109=>wpList_nil (za ?_))
 obtain⟨o110,p110,k110⟩:=bs h107
 refine zi (λ a w=>∃ M1 q110_0 q110_1 q110_2 q110_3 q110_4 q110_5 q110_6,Sx (Frm.chg w0 G) 111 M M1 [oneB q110_0,q110_1,q110_2,q110_3,q110_4,q110_5,oneB q110_6] [(13,dt (v48.1.modules.length:Int))] [(0,5,dnm (oMac ((v48.1.modules.length,b69)::ps)) q110_5 ⟨o110⟩ (.pointer (some ⟨b0,0,none⟩)) [])] a w) ?_ ?_
 ·
  obtain⟨v111,p111,h112⟩:=bs p110
  refine st109.sqB (sP 2 (r:=by exact sc rfl (we (l:=[.tmp 89,.tmp 90]) st109.ob.sub rfl kN118 (.cons (lendA (sb:=0) st109.ob 5 (tp rfl) rfl iI) (.cons (jU st109.ob.sub (tp rfl)) .nil)) (xB p111) y9)<|segC)) [1,7,13,15] [(0,5)] (λ _ _ st113=>?_)
  refine st113.sqC [1,13,15,97] [(0,5)] (λ _ _ st114=>?_)
  refine st114.cs rfl h112 (λ _ h115=>?_) (λ _ h116=>wp_skip (za ?_))
  ·
   obtain⟨v118,p118,v120,p120,h122⟩:=bsB h115
   refine st114.hdF (s:=0) 5 true (λ _=>((PV.root.box rfl).fld owMachine.f4)) rfl rfl iI [] rfl (λ g117 A117 _ hA117 st117=>?_)
   refine st117.mintP (s:=0) 5 rfl rfl iI (Zu (owMachine.impE4 (ZU (zA (yt p118).2)))) [] rfl (λ b119 st119=>?_)
   refine st119.drnA (D:=[_,_,_,_,_,_,_,_,_,_,_]) zJ 11 [[(0,nS)],[(98,0)],[(99,1)],[(100,2),(0,nS)],[(15,nS)],[(101,3),(102,4)],[(103,5),(0,nS)],[(1,nS)],[(105,7)],[(13,nS)],[(107,9)],[(104,6),(106,8),(108,10)]] [13,104,106,108] [(0,5)] (λ _ _ st123=>?_) (hs:=rc rfl rfl (oM rfl (zR rfl))<|rc rfl rfl (xNc rfl (tp rfl))<|rc rfl rfl (xFa rfl Jn (tp rfl))<|rc rfl rfl (xLc (sb:=0) (.head _) rfl rfl rfl kT92 (tp rfl) rfl)<|rc rfl rfl (oM rfl (tp rfl))<|rc rfl rfl (xIa (g:=g117) rfl kS92 (tp rfl) (tp rfl) rfl (λ h=>hA117 h rfl) p118)<|rc rfl rfl (xLdP (sb:=0) ((PV.root.box rfl).fld owMachine.f4) (.head _) rfl (λ h=>hA117 h rfl) (.head _) (yt p118).2 (Nat.mul_one _) rfl kT95 (tp rfl) rfl)<|rc rfl rfl (oM rfl (tp rfl))<|rc rfl rfl (zB (l:=[.tmp 105]) rfl kN123 (.cons (tp rfl) .nil) (QW p120))<|rc rfl rfl (oM rfl (tp rfl))<|rc rfl rfl (Qv rfl cI (tp rfl))<|.nil)
   obtain⟨v125,p125,v127,p127,h128⟩:=bsB h122
   refine st123.cSF (l:=[.tmp 106,.tmp 108]) 5 (st123.bkP (sb:=0) ((PV.root.box rfl).fld owMachine.f4) (.head _) p125 rfl iI) rfl rfl kN122 (st123.st.has 104 _ rfl) (by simp) (.cons (tp rfl) (.cons (tp rfl) .nil)) (FnS.any (jE p127)) [13] rfl [] rfl rfl (by decide) (λ _ _ _ _ st124=>?_)
   have st129:=st124.gn
   refine wpList_nil ?_
   have st130:=st129.asA 0 5 (xO (owMachine.imp4 (xb (λ _ h=>(.tail _ h))))) []
   refine za ?_
   cases h128
   exact fx
  cases h116
  exact fx
 rintro a110 w110 ⟨M110,q110_0,q110_1,q110_2,q110_3,q110_4,q110_5,q110_6,st110⟩
 have h131:=k110
 refine st110.sqA [4,5] [(0,5)] (λ _ _ st132=>wp_ret ?_)
 have st133:=st132.asA 0 5 (xO (owMachine.imp4 (xb (λ _ h=>(.tail _ h))))) []
 exact st133.rs2 (s:=0) 5 rfl rfl rfl rfl iI (bxr h131)
def yE(_R:Rec)(x1:Int)(v243:List GAttr)(s248:Machine×Int):Option ((Machine×Int)⊕(Machine⊕(Machine×Int))):=
if(cmpI .lss s248.2 (v243.length:Int))=true then(Option.bind (α:=Machine) ((atI v243 s248.2).bind λ v254=>
(atI v254.name.l (0:Int)).bind λ v262=>
if(cmpB .neq v262 (UInt8.ofNat 122))=true then((s248.1.modules[x1.toNat]?).bind λ v269=>
(yc v269.x v254.name v254.value).bind λ v271=>
some ({ s248.1 with modules:=(s248.1.modules.set x1.toNat ⟨v271⟩) }))
else(some s248.1)) λ o253=>
(i64 (s248.2+(1:Int))).bind λ v275=>
some (.inl (o253,v275)))
else(some (.inr (.inl s248.1)))
def yj(R:Rec)(x0:Machine)(x1:Int)(x2:Stmt):Option (Machine×Int):=
(atI x0.modules x1).bind λ _v3=>
Option.bind (α:=Machine⊕(Machine×Int)) (if(cmpI .eql x2.kind (0:Int))=true then((R.impl_machine_load1 x0 x2.module).bind λ v15=>
if(cmpI .neq v15.2.2 (0:Int))=true then(some (.inr (v15.1,v15.2.2)))
else((Z0 x2.module (⟨[46]⟩:Str)).bind λ v25=>
(zW v15.1 v25.1).bind λ v28=>
if(cmpI .lss v28 (0:Int))=true then(some (.inr (v15.1,(1:Int))))
else((v15.1.modules[x1.toNat]?).bind λ v39=>
(yc v39.x v25.1 (⟨(1:Int),v28⟩:GVal)).bind λ v41=>
some (.inl ({ v15.1 with modules:=(v15.1.modules.set x1.toNat ⟨v41⟩) })))))
else(if(cmpI .eql x2.kind (1:Int))=true then((x0.modules[x1.toNat]?).bind λ v47=>
(yn v47.x).bind λ v48=>
(wH v48 x2.level x2.module).bind λ v49=>
if(decide (v49=(⟨[]⟩:Str)))=true then(some (.inr (x0,(5:Int))))
else((R.impl_machine_load1 x0 v49).bind λ v62=>
if(cmpI .neq v62.2.2 (0:Int))=true then(some (.inr (v62.1,v62.2.2)))
else(Option.bind (α:=GVal×Bool) ((atI v62.1.modules v62.2.1).bind λ _v83=>
(v62.1.modules[v62.2.1.toNat]?).bind λ v87=>
(xR v87.x x2.name).bind λ v88=>
some (v88.1,v88.2)) λ o72=>
Option.bind (α:=(Machine×GVal)⊕(Machine⊕(Machine×Int))) (if(!o72.2)=true then((wh v49 x2.name).bind λ v171=>
(atI v62.1.modules v62.2.1).bind λ _v175=>
(v62.1.modules[v62.2.1.toNat]?).bind λ v177=>
(gO ((cmpI .eql v177.x.kind (1:Int)||decide (v171=(⟨[]⟩:Str))) == false) (zW v62.1 v171)).bind λ v178=>
(gO (((cmpI .eql v177.x.kind (1:Int)||decide (v171=(⟨[]⟩:Str))) == false)&&(cmpI .lss v178 (0:Int) == true)) (yR v62.1 v171)).bind λ v184=>
if((cmpI .eql v177.x.kind (1:Int)||decide (v171=(⟨[]⟩:Str)))||(cmpI .lss v178 (0:Int)&&cmpI .eql v184.2.kind (0:Int)))=true then(some (.inr (.inr ((if(((cmpI .eql v177.x.kind (1:Int)||decide (v171=(⟨[]⟩:Str))) == false)&&(cmpI .lss v178 (0:Int) == true))=true then v184.1 else v62.1),(2:Int)))))
else((R.impl_machine_load1 (if(((cmpI .eql v177.x.kind (1:Int)||decide (v171=(⟨[]⟩:Str))) == false)&&(cmpI .lss v178 (0:Int) == true))=true then v184.1 else v62.1) v171).bind λ v196=>
if(cmpI .neq v196.2.2 (0:Int))=true then(some (.inr (.inr (v196.1,v196.2.2))))
else(some (.inl (v196.1,(⟨(1:Int),v196.2.1⟩:GVal))))))
else(some (.inl (v62.1,o72.1)))) (Sum.elim (λ b167=>
(b167.1.modules[x1.toNat]?).bind λ v214=>
(yc v214.x x2.name b167.2).bind λ v216=>
some (.inl ({ b167.1 with modules:=(b167.1.modules.set x1.toNat ⟨v216⟩) }))) some))))
else(if(cmpI .eql x2.kind (2:Int))=true then((R.impl_machine_load1 x0 x2.module).bind λ v224=>
if(cmpI .neq v224.2.2 (0:Int))=true then(some (.inr (v224.1,v224.2.2)))
else((atI v224.1.modules v224.2.1).bind λ _v235=>
(v224.1.modules[v224.2.1.toNat]?).bind λ v237=>
(appO 32 [] v237.x.attrs).bind λ v243=>
zK (λ s248=>yE R x1 v243 s248) (v224.1,(0:Int))))
else(if(cmpI .eql x2.kind (3:Int))=true then((x0.modules[x1.toNat]?).bind λ v285=>
(yc v285.x x2.name (⟨(0:Int),x2.value⟩:GVal)).bind λ v287=>
some (.inl ({ x0 with modules:=(x0.modules.set x1.toNat ⟨v287⟩) })))
else(if(cmpI .eql x2.kind (4:Int))=true then((x0.modules[x1.toNat]?).bind λ v293=>
(xR v293.x x2.name).bind λ v294=>
if(!v294.2)=true then(some (.inr (x0,(3:Int))))
else(if(cmpI .eql v294.1.kind (1:Int))=true then((appO 8 x0.out ([(-1:Int)]:List Int)).bind λ v320=>
some (.inl ({ x0 with out:=v320 })))
else((appO 8 x0.out ([v294.1.num]:List Int)).bind λ v336=>
some (.inl ({ x0 with out:=v336 })))))
else(if(cmpI .eql x2.kind (5:Int))=true then(some (.inr (x0,(4:Int))))
else(some (.inl x0)))))))) (Sum.elim (λ b8=>
some (b8,(0:Int))) some)
theorem zbg{R:Rec}(hR:R.ok){ps:List (Nat×Nat)}{x0:Machine}{x1:Int}{x2:Stmt}{r:Machine×Int}(h:yj R x0 x1 x2=some r):FnS prog 163 (oMac ps) ⟨x0⟩ [dt x1,dt x2] ⟨r.1⟩ (.frz (dt r.2)):=by
 unfold yj at h
 refine fnSB (fn:=f163) 1 7 func163 rfl (oD rfl) rfl (λ M G w0 b0 _ st0=>?_)
 refine st0.sqA [1,5] [(0,1)] (λ _ _ st1=>?_)
 obtain⟨v3,p3,h5⟩:=bs h
 refine st1.hdF (s:=0) 1 true (λ _=>((PV.root.box rfl).fld owMachine.f4)) rfl rfl iI [] rfl (λ g2 A2 _ hA2 st2=>?_)
 refine st2.mintP (s:=0) 1 rfl rfl iI (Zu (owMachine.impE4 (ZU (zA (yt p3).2)))) [] rfl (λ b4 st4=>?_)
 refine st4.sqB (sP 5 (r:=by exact sc rfl (xIa (g:=g2) rfl kS92 (tp rfl) (tp rfl) rfl (λ h=>hA2 h rfl) p3)<|sc rfl (xLdP (sb:=0) ((PV.root.box rfl).fld owMachine.f4) (.head _) rfl (λ h=>hA2 h rfl) (.head _) (yt p3).2 (Nat.mul_one _) rfl kT95 (tp rfl) rfl)<|segC)) [5,7] [(0,1)] (λ _ _ st6=>?_)
 have st7:=st6.ncf (s:=0) 1 rfl rfl iI [] rfl
 obtain⟨o8,p8,k8⟩:=bs h5
 refine zi (λ a w=>∃ b8,o8=.inl b8/\(∃ M1 q8_0 q8_1 q8_2 q8_3 q8_4 q8_5 q8_6,Sx (Frm.chg w0 G) 236 M M1 [oneB q8_0,q8_1,q8_2,q8_3,oneB q8_4,oneB q8_5,oneB q8_6] [] [(0,1,dnm (oMac ((x1.toNat,b4)::ps)) q8_1 ⟨b8⟩ (.pointer (some ⟨b0,0,none⟩)) [])] a w)) ?_ ?_
 ·
  refine st7.sqA [5,7,36] [(0,1)] (λ _ _ st9=>wp_block ?_)
  refine st9.sqA [5,7,36,37] [(0,1)] (λ _ _ st10=>?_)
  refine st10.cs rfl p8 (λ _ h11=>wp_seq (wp_seq (wp_region_list ?_))) (λ _ h12=>?_)
  ·
   refine st10.segC 3 [5,7,40,42] [(0,1)] (λ _ _ st13=>?_)
   obtain⟨v15,p15,h16⟩:=bs h11
   refine st13.cNA 1 0 (hR.impl_machine_load1 p15) [5,7] [] (λ G14 _ _ _ st17=>?_)
   refine st17.segA 5 [5,7,9] [(0,1)] (λ _ _ st18=>wpList_nil (za ?_))
   refine st18.sqA [5,7,9,47] [(0,1)] (λ _ _ st19=>?_)
   refine st19.cs rfl h16 (λ _ h20=>?_) (λ _ h21=>wp_skip (za ?_))
   ·
    refine st19.sqA [6] [(0,1)] (λ _ _ st22=>wp_ret (ze (zt (ze ?_))))
    have st23:=st22.asA 0 1 (xO (owMachine.imp4 (xb (λ _ h=>(.tail _ h))))) []
    have h24:=jo h20 k8
    exact st23.rsF (s:=0) 1 rfl rfl rfl iI (bxr h24) y9
   obtain⟨v25,p25,h26⟩:=bsW h21 strings_Cut_w
   refine st19.sqA [7,10] [(0,1)] (λ _ _ st27=>?_)
   obtain⟨v28,p28,h29⟩:=bs h26
   refine st27.sqB (sP 2 (r:=by exact sc rfl (we (l:=[.tmp 56,.tmp 57]) st27.ob.sub rfl kN118 (.cons (lendA (sb:=0) st27.ob 1 (tp rfl) rfl iI) (.cons (jU st27.ob.sub (tp rfl)) .nil)) (xB p28) y9)<|segC)) [7,10,13] [(0,1)] (λ _ _ st30=>wp_seq ?_)
   refine st30.sqA [7,10,13,60] [(0,1)] (λ _ _ st31=>?_)
   refine st31.cs rfl h29 (λ _ h32=>?_) (λ _ h33=>wp_skip (za (wp_region_list ?_)))
   ·
    refine st31.sqA [6] [(0,1)] (λ _ _ st34=>wp_ret (ze (zt (ze ?_))))
    have st35:=st34.asA 0 1 (xO (owMachine.imp4 (xb (λ _ h=>(.tail _ h))))) []
    have h36:=jo h32 k8
    exact st35.rsF (s:=0) 1 rfl rfl rfl iI (bxr h36) y9
   refine st31.segB 4 (sP 3 (r:=by exact sc rfl (Qv rfl cI (tp rfl))<|.nil)) [61,62,64] [(0,1)] (λ _ _ st37=>?_)
   obtain⟨v39,p39,v41,p41,h42⟩:=bsB h33
   refine st37.cSF (l:=[.tmp 62,.tmp 64]) 1 (st37.bkP (sb:=0) ((PV.root.box rfl).fld owMachine.f4) (.head _) p39 rfl iI) rfl rfl kN122 (st37.st.has 61 _ rfl) (by simp) (.cons (tp rfl) (.cons (tp rfl) .nil)) (FnS.any (jE p41)) [] rfl [] rfl rfl (by decide) (λ _ _ _ _ st38=>?_)
   have st43:=st38.gn
   refine wpList_nil (zf (za ?_))
   exact fl h42
  refine st10.sqA [5,7,36,66] [(0,1)] (λ _ _ st44=>?_)
  refine st44.cs rfl h12 (λ _ h45=>wp_seq ?_) (λ _ h46=>?_)
  ·
   obtain⟨v47,p47,v48,p48,v49,p49,h52⟩:=bsC h45
   refine st44.drA (D:=[_,_,_,_,_,_,_,_]) zJ [[(7,nS)],[(68,0),(0,nS)],[(5,nS)],[(70,2)],[(5,nS)],[(72,4)],[(69,1),(71,3),(73,5)],[(74,6)]] [5,7,14] [(0,1)] (λ _ _ st53=>?_) (hs:=rc rfl rfl (oM rfl (tp rfl))<|rc rfl rfl (we (l:=[.tmp 68]) st44.ob.sub rfl kN107 (.cons (lendQ (sb:=0) st44.ob 1 (((PV.root.box rfl).fld owMachine.f4).rowP (.head _) p47) (tp rfl) rfl iI) .nil) (Yp p48) Wd)<|rc rfl rfl (zH Stmt.fld2 rfl kF74_2 (tp rfl))<|rc rfl rfl (zr rfl kT3 (tp rfl))<|rc rfl rfl (zH Stmt.fld1 rfl kF74_1 (tp rfl))<|rc rfl rfl (zr rfl kT9 (tp rfl))<|rc rfl rfl (zB (l:=[.tmp 69,.tmp 71,.tmp 73]) rfl kN106 (.cons (tp rfl) (.cons (tp rfl) (.cons (tp rfl) .nil))) (Wl p49))<|rc rfl rfl (oA rfl (tp rfl))<|.nil)
   refine za (wp_seq ?_)
   refine st53.sqA [5,7,14,76] [(0,1)] (λ _ _ st54=>?_)
   refine st54.cs rfl h52 (λ _ h55=>?_) (λ _ h56=>wp_skip (za (wp_seq (wp_region_list ?_))))
   ·
    refine st54.sqA [6] [(0,1)] (λ _ _ st57=>wp_ret (ze (zt (ze ?_))))
    have st58:=st57.asA 0 1 (xO (owMachine.imp4 (xb (λ _ h=>(.tail _ h))))) []
    have h59:=jo h55 k8
    exact st58.rsF (s:=0) 1 rfl rfl rfl iI (bxr h59) y9
   refine st54.segC 2 [5,7,14,78,79] [(0,1)] (λ _ _ st60=>?_)
   obtain⟨v62,p62,h63⟩:=bs h56
   refine st60.cNA 1 0 (hR.impl_machine_load1 p62) [5,7,14] [] (λ G61 _ _ _ st64=>?_)
   refine st64.segA 5 [5,7,14,15,16] [(0,1)] (λ _ _ st65=>wpList_nil (za (wp_seq ?_)))
   refine st65.sqA [5,7,14,15,16,84] [(0,1)] (λ _ _ st66=>?_)
   refine st66.cs rfl h63 (λ _ h67=>?_) (λ _ h68=>wp_skip (za ?_))
   ·
    refine st66.sqA [6] [(0,1)] (λ _ _ st69=>wp_ret (ze (zt (ze ?_))))
    have st70:=st69.asA 0 1 (xO (owMachine.imp4 (xb (λ _ h=>(.tail _ h))))) []
    have h71:=jo h67 k8
    exact st70.rsF (s:=0) 1 rfl rfl rfl iI (bxr h71) y9
   obtain⟨o72,p72,k72⟩:=bs h68
   refine zi (λ a w=>∃ M1 q72_0 q72_1 q72_2 q72_3 q72_4 q72_5 q72_6,Sx (Frm.chg w0 G) 236 M M1 [oneB q72_0,q72_1,q72_2,q72_3,oneB q72_4,oneB q72_5,oneB q72_6] [(5,dptr x2),(14,dt v49),(15,dt v62.2.1),(18,dt o72.2),(7,dis (.pointer (some ⟨b4,0,none⟩)))] [(17,4,dbox q72_4 0 o72.1),(0,1,dnm (oMac ((x1.toNat,b4)::ps)) q72_1 ⟨v62.1⟩ (.pointer (some ⟨b0,0,none⟩)) [])] a w) ?_ ?_
   ·
    refine st66.opn (s:=5) rfl (λ b73 o73 c73 st73=>?_)
    refine st73.held (λ w=>CellsAt w b73 o73 c73) zJ (λ _ st74=>?_)
    refine st74.tN 0 0 (st74.pkZ 5) (λ _ st75=>?_)
    refine st75.tk (i:=1) rfl rfl (by decide +kernel) (by decide +kernel) (by decide +kernel) (λ _ _ _ h=>h) (st75.pkS (s:=5) rfl) (yNc rfl (st75.st.has 87 _ rfl)) (λ _ st76=>?_)
    refine st76.tk (i:=2) rfl rfl (by decide +kernel) (by decide +kernel) (by decide +kernel) (λ _ _ _ h=>h) (st76.pkS (s:=5) rfl) (yFa rfl Jn (st76.st.has 88 _ rfl)) (λ _ st77=>?_)
    refine st77.tM 4 15 (st77.pkZ 5) (λ _ st78=>?_)
    refine st78.tA 7 5 (λ _ st79=>?_) (ht:=kF74_3)
    refine st79.tF 8 5 94 Stmt.fld3 (λ _ st80=>?_)
    obtain⟨v83,p83,v87,p87,v88,p88,h101⟩:=bsC p72
    refine aK2 3 13 ?_ ?_
    ·
     refine st80.hdF (s:=0) 1 true (λ _=>((PV.root.box rfl).fld owMachine.f4)) rfl rfl iI [] rfl (λ g102 A102 _ hA102 st102=>?_)
     refine st102.segC 1 [5,7,14,15,90,91,95] [(0,1)] (λ _ _ st103=>?_)
     refine aHN (st103.pkZ 5) ?_
     refine st103.tkI (i:=5) (s2:=90) (g:=g102) rfl rfl (by decide +kernel) (by decide +kernel) (by decide +kernel) (λ _ _ _ _ h=>h) (st103.pkZ 5) rfl kS92 rfl rfl (tp rfl) rfl (λ h=>hA102 h rfl) p83 (λ _ st104=>?_)
     refine aK2 6 13 ?_ ?_
     ·
      refine st104.mintP (s:=0) 1 rfl rfl iI (Zu (owMachine.impE4 (ZU (zA (yt p83).2)))) [] rfl (λ b105 st105=>?_)
      refine st105.segB 1 (sc rfl (xLdP (sb:=0) ((PV.root.box rfl).fld owMachine.f4) (.head _) rfl (λ h=>hA102 h rfl) (.head _) (yt p83).2 (Nat.mul_one _) rfl kT95 (tp rfl) rfl)<|.nil) [5,7,14,15,93,95] [(0,1)] (λ _ _ st106=>?_)
      refine aHN (st106.pkZ 5) ?_
      refine aK2 9 13 ?_ ?_
      ·
       refine st106.segB 1 (sc rfl (we (l:=[.tmp 93,.tmp 95]) st106.ob.sub rfl kN203 (.cons (lendQ (sb:=0) st106.ob 1 (((PV.root.box rfl).fld owMachine.f4).rowP (.head _) p87) (tp rfl) rfl iI) (.cons (jU st106.ob.sub (tp rfl)) .nil)) (jD p88) (W0 J1 qn))<|.nil) [5,7,14,15,96] [(0,1)] (λ _ _ st107=>?_)
       refine aHN (st107.pkZ 5) ?_
       refine st107.tM 10 96 (st107.pkZ 5) (λ _ st108=>?_)
       refine st108.tkE (i:=11) (s2:=86) rfl rfl (by decide +kernel) (by decide +kernel) (by decide +kernel) (λ _ _ _ _ h=>h) (st108.pkZ 5) rfl rfl rfl rfl (λ _ st109=>?_)
       refine st109.tkE (i:=12) (s2:=86) rfl rfl (by decide +kernel) (by decide +kernel) (by decide +kernel) (λ _ _ _ _ h=>h) (st109.pkZ 5) rfl rfl rfl rfl (λ _ st110=>aK1 13 ?_)
       refine st110.alA 4 zap [5,7,14,15,97,98] [0] (λ b112 _ _ _ st112=>?_)
       have st113:=st112.gn
       refine aHN (st113.pkZ 5) ?_
       refine aK1 14 ?_
       refine st113.stA 17 4 FldS.id (tp rfl) [5,7,14,15,98] [0] (λ _ _ st115=>?_)
       refine aHN (st115.pkZ 5) ?_
       refine aK1 15 ?_
       refine st115.segA 1 [5,7,14,15,18] [(0,1),(17,4)] (λ _ _ st116=>?_)
       refine aHN (st116.pkZ 5) ?_
       refine aK0 ?_
       have st117:=st116.ncf (s:=0) 1 rfl rfl iI [17] rfl
       have st118:=st117.clo (s:=5) rfl
       have st119:=st118.asA 0 1 (xO (owMachine.imp4 (xb (λ _ h=>(.tail _ h))))) [17]
       refine za ?_
       cases h101
       exact fx
      ·
       refine st106.alA 4 zap [5,7,14,15,93,95] [0] (λ b121 _ _ _ st121=>?_)
       have st122:=st121.gn
       refine aHN (st122.pkZ 5) ?_
       refine aK1 9 ?_
       refine st122.segB 1 (sc rfl (we (l:=[.tmp 93,.tmp 95]) st122.ob.sub rfl kN203 (.cons (lendQ (sb:=0) st122.ob 1 (((PV.root.box rfl).fld owMachine.f4).rowP (.head _) p87) (tp rfl) rfl iI) (.cons (jU st122.ob.sub (tp rfl)) .nil)) (jD p88) (W0 J1 qn))<|.nil) [5,7,14,15,96] [(0,1),(17,4)] (λ _ _ st123=>?_)
       refine aHN (st123.pkZ 5) ?_
       refine st123.tM 10 96 (st123.pkZ 5) (λ _ st124=>?_)
       refine st124.tkE (i:=11) (s2:=86) rfl rfl (by decide +kernel) (by decide +kernel) (by decide +kernel) (λ _ _ _ _ h=>h) (st124.pkZ 5) rfl rfl rfl rfl (λ _ st125=>?_)
       refine st125.tkE (i:=12) (s2:=86) rfl rfl (by decide +kernel) (by decide +kernel) (by decide +kernel) (λ _ _ _ _ h=>h) (st125.pkZ 5) rfl rfl rfl rfl (λ _ st126=>aK1 14 ?_)
       refine st126.stA 17 4 FldS.id (tp rfl) [5,7,14,15,98] [0] (λ _ _ st128=>?_)
       refine aHN (st128.pkZ 5) ?_
       refine aK1 15 ?_
       refine st128.segA 1 [5,7,14,15,18] [(0,1),(17,4)] (λ _ _ st129=>?_)
       refine aHN (st129.pkZ 5) ?_
       refine aK0 ?_
       have st130:=st129.ncf (s:=0) 1 rfl rfl iI [17] rfl
       have st131:=st130.clo (s:=5) rfl
       have st132:=st131.asA 0 1 (xO (owMachine.imp4 (xb (λ _ h=>(.tail _ h))))) [17]
       refine za ?_
       cases h101
       exact fx
     ·
      refine st104.alA 4 zap [5,7,14,15,92,95] [0] (λ b134 _ _ _ st134=>?_)
      have st135:=st134.gn
      refine aHN (st135.pkZ 5) ?_
      refine aK1 6 ?_
      refine st135.mintP (s:=0) 1 rfl rfl iI (Zu (owMachine.impE4 (ZU (zA (yt p83).2)))) [17] rfl (λ b136 st136=>?_)
      refine st136.segB 1 (sc rfl (xLdP (sb:=0) ((PV.root.box rfl).fld owMachine.f4) (.head _) rfl (λ h=>hA102 h rfl) (.head _) (yt p83).2 (Nat.mul_one _) rfl kT95 (tp rfl) rfl)<|.nil) [5,7,14,15,93,95] [(0,1),(17,4)] (λ _ _ st137=>?_)
      refine aHN (st137.pkZ 5) ?_
      refine aK1 9 ?_
      refine st137.segB 1 (sc rfl (we (l:=[.tmp 93,.tmp 95]) st137.ob.sub rfl kN203 (.cons (lendQ (sb:=0) st137.ob 1 (((PV.root.box rfl).fld owMachine.f4).rowP (.head _) p87) (tp rfl) rfl iI) (.cons (jU st137.ob.sub (tp rfl)) .nil)) (jD p88) (W0 J1 qn))<|.nil) [5,7,14,15,96] [(0,1),(17,4)] (λ _ _ st138=>?_)
      refine aHN (st138.pkZ 5) ?_
      refine st138.tM 10 96 (st138.pkZ 5) (λ _ st139=>?_)
      refine st139.tkE (i:=11) (s2:=86) rfl rfl (by decide +kernel) (by decide +kernel) (by decide +kernel) (λ _ _ _ _ h=>h) (st139.pkZ 5) rfl rfl rfl rfl (λ _ st140=>?_)
      refine st140.tkE (i:=12) (s2:=86) rfl rfl (by decide +kernel) (by decide +kernel) (by decide +kernel) (λ _ _ _ _ h=>h) (st140.pkZ 5) rfl rfl rfl rfl (λ _ st141=>aK1 14 ?_)
      refine st141.stA 17 4 FldS.id (tp rfl) [5,7,14,15,98] [0] (λ _ _ st143=>?_)
      refine aHN (st143.pkZ 5) ?_
      refine aK1 15 ?_
      refine st143.segA 1 [5,7,14,15,18] [(0,1),(17,4)] (λ _ _ st144=>?_)
      refine aHN (st144.pkZ 5) ?_
      refine aK0 ?_
      have st145:=st144.ncf (s:=0) 1 rfl rfl iI [17] rfl
      have st146:=st145.clo (s:=5) rfl
      have st147:=st146.asA 0 1 (xO (owMachine.imp4 (xb (λ _ h=>(.tail _ h))))) [17]
      refine za ?_
      cases h101
      exact fx
    ·
     refine st80.alA 4 zap [5,7,14,15,89,91,95] [0] (λ b149 _ _ _ st149=>?_)
     have st150:=st149.gn
     refine aHN (st150.pkZ 5) ?_
     refine aK1 3 ?_
     refine st150.hdF (s:=0) 1 true (λ _=>((PV.root.box rfl).fld owMachine.f4)) rfl rfl iI [17] rfl (λ g151 A151 _ hA151 st151=>?_)
     refine st151.segC 1 [5,7,14,15,90,91,95] [(0,1),(17,4)] (λ _ _ st152=>?_)
     refine aHN (st152.pkZ 5) ?_
     refine st152.tkI (i:=5) (s2:=90) (g:=g151) rfl rfl (by decide +kernel) (by decide +kernel) (by decide +kernel) (λ _ _ _ _ h=>h) (st152.pkZ 5) rfl kS92 rfl rfl (tp rfl) rfl (λ h=>hA151 h rfl) p83 (λ _ st153=>aK1 6 ?_)
     refine st153.mintP (s:=0) 1 rfl rfl iI (Zu (owMachine.impE4 (ZU (zA (yt p83).2)))) [17] rfl (λ b154 st154=>?_)
     refine st154.segB 1 (sc rfl (xLdP (sb:=0) ((PV.root.box rfl).fld owMachine.f4) (.head _) rfl (λ h=>hA151 h rfl) (.head _) (yt p83).2 (Nat.mul_one _) rfl kT95 (tp rfl) rfl)<|.nil) [5,7,14,15,93,95] [(0,1),(17,4)] (λ _ _ st155=>?_)
     refine aHN (st155.pkZ 5) ?_
     refine aK1 9 ?_
     refine st155.segB 1 (sc rfl (we (l:=[.tmp 93,.tmp 95]) st155.ob.sub rfl kN203 (.cons (lendQ (sb:=0) st155.ob 1 (((PV.root.box rfl).fld owMachine.f4).rowP (.head _) p87) (tp rfl) rfl iI) (.cons (jU st155.ob.sub (tp rfl)) .nil)) (jD p88) (W0 J1 qn))<|.nil) [5,7,14,15,96] [(0,1),(17,4)] (λ _ _ st156=>?_)
     refine aHN (st156.pkZ 5) ?_
     refine st156.tM 10 96 (st156.pkZ 5) (λ _ st157=>?_)
     refine st157.tkE (i:=11) (s2:=86) rfl rfl (by decide +kernel) (by decide +kernel) (by decide +kernel) (λ _ _ _ _ h=>h) (st157.pkZ 5) rfl rfl rfl rfl (λ _ st158=>?_)
     refine st158.tkE (i:=12) (s2:=86) rfl rfl (by decide +kernel) (by decide +kernel) (by decide +kernel) (λ _ _ _ _ h=>h) (st158.pkZ 5) rfl rfl rfl rfl (λ _ st159=>aK1 14 ?_)
     refine st159.stA 17 4 FldS.id (tp rfl) [5,7,14,15,98] [0] (λ _ _ st161=>?_)
     refine aHN (st161.pkZ 5) ?_
     refine aK1 15 ?_
     refine st161.segA 1 [5,7,14,15,18] [(0,1),(17,4)] (λ _ _ st162=>?_)
     refine aHN (st162.pkZ 5) ?_
     refine aK0 ?_
     have st163:=st162.ncf (s:=0) 1 rfl rfl iI [17] rfl
     have st164:=st163.clo (s:=5) rfl
     have st165:=st164.asA 0 1 (xO (owMachine.imp4 (xb (λ _ h=>(.tail _ h))))) [17]
     refine za ?_
     cases h101
     exact fx
   rintro a72 w72 ⟨M72,q72_0,q72_1,q72_2,q72_3,q72_4,q72_5,q72_6,st72⟩
   have h166:=k72
   obtain⟨o167,p167,k167⟩:=bs h166
   refine zi (λ a w=>∃ b167,o167=.inl b167/\(∃ M1 q167_0 q167_1 q167_2 q167_3 q167_4 q167_5 q167_6,Sx (Frm.chg w0 G) 236 M M1 [oneB q167_0,q167_1,q167_2,q167_3,oneB q167_4,oneB q167_5,oneB q167_6] [(5,dptr x2),(7,dis (.pointer (some ⟨b4,0,none⟩)))] [(17,4,dbox q167_4 0 b167.2),(0,1,dnm (oMac ((x1.toNat,b4)::ps)) q167_1 ⟨b167.1⟩ (.pointer (some ⟨b0,0,none⟩)) [])] a w)) ?_ ?_
   ·
    refine st72.sqA [5,7,14,15,100] [(0,1),(17,4)] (λ _ _ st168=>?_)
    refine st168.cs rfl p167 (λ _ h169=>?_) (λ _ h170=>wp_skip (za ?_))
    ·
     obtain⟨v171,p171,h172⟩:=bsW h169 YD
     refine st168.sqA [5,7,15,19] [(0,1),(17,4)] (λ _ _ st173=>wp_seq (wp_seq (wp_region_list ?_)))
     obtain⟨v175,p175,v177,p177,v178,p178,h181⟩:=bsC h172
     refine st173.hdF (s:=0) 1 true (λ _=>((PV.root.box rfl).fld owMachine.f4)) rfl rfl iI [17] rfl (λ g174 A174 _ hA174 st174=>?_)
     refine st174.mintP (s:=0) 1 rfl rfl iI (Zu (owMachine.impE4 (ZU (zA (yt p175).2)))) [17] rfl (λ b176 st176=>?_)
     refine st176.segB 23 (sc rfl (oM rfl (zR rfl))<|sc rfl (xNc rfl (tp rfl))<|sc rfl (xFa rfl Jn (tp rfl))<|sc rfl (xLc (sb:=0) (.head _) rfl rfl rfl kT92 (tp rfl) rfl)<|sc rfl (oM rfl (tp rfl))<|sc rfl (xIa (g:=g174) rfl kS92 (tp rfl) (tp rfl) rfl (λ h=>hA174 h rfl) p175)<|sc rfl (xLdP (sb:=0) ((PV.root.box rfl).fld owMachine.f4) (.head _) rfl (λ h=>hA174 h rfl) (.head _) (yt p175).2 (Nat.mul_one _) rfl kT95 (tp rfl) rfl)<|sc rfl (xNc rfl (tp rfl))<|sc rfl (xFa rfl kF98_1 (tp rfl))<|sc rfl (xLf (sb:=0) ((((PV.root.box rfl).fld owMachine.f4).rowP (.head _) p177).fld owGModR.f1) rfl kT3 (tp rfl) rfl)<|sc rfl (oCI rfl (tp rfl) cI)<|sc rfl (oM rfl (tp rfl))<|sg rfl rfl (λ hg=>oM rfl (tp rfl))<|sg rfl rfl (λ hg=>qQ rfl (zn hg rfl) (zN (by decide)))<|sc rfl (ZO rfl (tp rfl) (zb rfl))<|sc rfl (oM rfl (tp rfl))<|sg rfl rfl (λ hg=>oM rfl (zR rfl))<|sg rfl rfl (λ hg=>oM rfl (tp rfl))<|sg rfl rfl (λ hg=>we (l:=[.tmp 121,.tmp 122]) st176.ob.sub rfl kN118 (.cons (lendA (sb:=0) st176.ob 1 (zn hg rfl) rfl iI) (.cons (jU st176.ob.sub (zn hg rfl)) .nil)) (xB (gh hg p178)) y9)<|sg rfl rfl (λ hg=>oCI rfl (zn hg rfl) cI)<|sg rfl rfl (λ hg=>oM rfl (zn hg rfl))<|sgg rfl rfl (λ hg=>oM rfl (zR rfl))<|sgg rfl rfl (λ hg=>oM rfl (tp rfl))<|.nil) [5,7,19,120,125,126,127] [(0,1),(17,4)] (λ _ _ st182=>?_)
     obtain⟨v184,p184,h185⟩:=bs h181
     refine st182.cSFhB (sb:=0) (l:=[.tmp 127]) 1 rfl iI rfl rfl rfl kN120 (λ hg=>(st182.st.has 126 _ rfl).1 hg) (by simp) (λ hg=>(.cons (zn hg rfl) .nil)) (λ hg=>XR (gh hg p184)) [5,7,19,120,125] rfl [17] rfl rfl (by decide) (λ _ _ _ _ st183=>?_)
     have st186:=st183.gn
     refine st186.segB 4 (sgg rfl rfl (λ hg=>Qq Spec.fld0 rfl rfl kG71_0 (zn hg rfl))<|sgg rfl rfl (λ hg=>oCI rfl (zn hg rfl) cI)<|sg rfl rfl (λ hg=>xe rfl (zn hg rfl) (JO hg rfl))<|segC) [5,7,19,132] [(0,1),(17,4)] (λ _ _ st187=>wpList_nil (za ?_))
     refine st187.cs rfl h185 (λ _ h188=>?_) (λ _ h189=>wp_skip (za (wp_seq (wp_region_list ?_))))
     ·
      refine st187.sqA [6] [(0,1)] (λ _ _ st190=>wp_ret (ze (ze (zt (ze ?_)))))
      have st191:=st190.asA 0 1 (xO (owMachine.imp4 (xb (λ _ h=>(.tail _ (.tail _ h)))))) []
      have h192:=jo h188 k167
      have h193:=jo h192 k8
      exact st191.rsF (s:=0) 1 rfl rfl rfl iI (bxr h193) y9
     refine st187.segC 2 [5,7,134,135] [(0,1),(17,4)] (λ _ _ st194=>?_)
     obtain⟨v196,p196,h197⟩:=bs h189
     refine st194.cNA 1 0 (hR.impl_machine_load1 p196) [5,7] [17] (λ G195 _ _ _ st198=>?_)
     refine st198.segA 5 [5,7,20,21] [(0,1),(17,4)] (λ _ _ st199=>wpList_nil (za (wp_seq ?_)))
     refine st199.sqA [5,7,20,21,140] [(0,1),(17,4)] (λ _ _ st200=>?_)
     refine st200.cs rfl h197 (λ _ h201=>?_) (λ _ h202=>wp_skip (za (wp_region_list ?_)))
     ·
      refine st200.sqA [6] [(0,1)] (λ _ _ st203=>wp_ret (ze (ze (zt (ze ?_)))))
      have st204:=st203.asA 0 1 (xO (owMachine.imp4 (xb (λ _ h=>(.tail _ (.tail _ h)))))) []
      have h205:=jo h201 k167
      have h206:=jo h205 k8
      exact st204.rsF (s:=0) 1 rfl rfl rfl iI (bxr h206) y9
     refine st200.segB 2 (sP 1 (r:=by exact sc rfl (Qv rfl cI (tp rfl))<|.nil)) [5,7,143] [(0,1),(17,4)] (λ _ _ st207=>?_)
     refine st207.stA 17 4 FldS.id (tp rfl) [5,7] [0] (λ _ _ st209=>wpList_nil ?_)
     have st210:=st209.asA 0 1 (xO (owMachine.imp4 (xb (λ _ h=>(.tail _ h))))) [17]
     refine za ?_
     exact fl h202
    exact fl h170
   rintro a167 w167 ⟨b167,rfl,⟨M167,q167_0,q167_1,q167_2,q167_3,q167_4,q167_5,q167_6,st167⟩⟩
   have h211:=jn k167
   refine wp_region_list ?_
   refine st167.segC 4 [144,146,147] [(0,1)] (λ _ _ st212=>?_)
   obtain⟨v214,p214,v216,p216,h217⟩:=bsB h211
   refine st212.cSF (l:=[.tmp 146,.tmp 147]) 1 (st212.bkP (sb:=0) ((PV.root.box rfl).fld owMachine.f4) (.head _) p214 rfl iI) rfl rfl kN122 (st212.st.has 144 _ rfl) (by simp) (.cons (tp rfl) (.cons (tp rfl) .nil)) (FnS.any (jE p216)) [] rfl [] rfl rfl (by decide) (λ _ _ _ _ st213=>?_)
   have st218:=st213.gn
   refine wpList_nil (zf (za ?_))
   exact fl h217
  refine st44.sqA [5,7,36,149] [(0,1)] (λ _ _ st219=>?_)
  refine st219.cs rfl h46 (λ _ h220=>wp_seq (wp_region_list ?_)) (λ _ h221=>?_)
  ·
   refine st219.segC 3 [7,152,154] [(0,1)] (λ _ _ st222=>?_)
   obtain⟨v224,p224,h225⟩:=bs h220
   refine st222.cNA 1 0 (hR.impl_machine_load1 p224) [7] [] (λ G223 _ _ _ st226=>?_)
   refine st226.segA 5 [7,22,23] [(0,1)] (λ _ _ st227=>wpList_nil (za (wp_seq ?_)))
   refine st227.sqA [7,22,23,159] [(0,1)] (λ _ _ st228=>?_)
   refine st228.cs rfl h225 (λ _ h229=>?_) (λ _ h230=>wp_skip (za (wp_seq (wp_region_list ?_))))
   ·
    refine st228.sqA [6] [(0,1)] (λ _ _ st231=>wp_ret (ze (zt (ze ?_))))
    have st232:=st231.asA 0 1 (xO (owMachine.imp4 (xb (λ _ h=>(.tail _ h))))) []
    have h233:=jo h229 k8
    exact st232.rsF (s:=0) 1 rfl rfl rfl iI (bxr h233) y9
   obtain⟨v235,p235,v237,p237,h240⟩:=bsB h230
   refine st228.hdF (s:=0) 1 true (λ _=>((PV.root.box rfl).fld owMachine.f4)) rfl rfl iI [] rfl (λ g234 A234 _ hA234 st234=>?_)
   refine st234.mintP (s:=0) 1 rfl rfl iI (Zu (owMachine.impE4 (ZU (zA (yt p235).2)))) [] rfl (λ b236 st236=>?_)
   refine st236.hdA 0 1 ((((PV.root.box rfl).fld owMachine.f4).rowP (.head _) p237).fld owGModR.f5) [] (λ g238 A238 _ hA238 st238=>?_)
   refine st238.segB 11 (sc rfl (yZ (α:=GAttr) (e:=189) rfl kS96)<|sP 5 (r:=by exact sc rfl (xIa (g:=g234) rfl kS92 (tp rfl) (tp rfl) rfl (λ h=>hA234 h rfl) p235)<|sc rfl (xLdP (sb:=0) ((PV.root.box rfl).fld owMachine.f4) (.tail _ (.head _)) rfl (λ h=>hA234 h rfl) (.head _) (yt p235).2 (Nat.mul_one _) rfl kT95 (tp rfl) rfl)<|segC)) [7,171] [(0,1),(161,0)] (λ _ _ st241=>?_)
   obtain⟨v243,p243,h244⟩:=bs h240
   refine st241.appH 0 rfl rfl kE96 rfl rfl (st241.rowH (sb:=0) ((((PV.root.box rfl).fld owMachine.f4).rowP (.head _) p237).fld owGModR.f5) (.head _) rfl (wi rfl rfl) rfl rfl) p243 [7] rfl [0] rfl rfl (λ g242 _ _ _ st242=>?_)
   have st245:=st242.gn
   refine st245.segB 2 (sc rfl (Qo rfl kL96 (tp rfl))<|segC) [7,173,174] [(0,1),(172,0)] (λ _ _ st246=>wpList_nil ?_)
   have st247:=st246.ncf (s:=0) 1 rfl rfl iI [172] rfl
   refine za (wp_block ?_)
   refine zG h244 (λ s248 a w=>∃ M1 q248_0 q248_1 q248_2 q248_3 q248_4 q248_5 q248_6,Sx (Frm.chg w0 G) 236 M M1 [oneB q248_0,q248_1,q248_2,q248_3,oneB q248_4,oneB q248_5,oneB q248_6] [(173,dt (v243.length:Int)),(174,dt s248.2),(7,dis (.pointer (some ⟨b4,0,none⟩)))] [(172,0,dtip q248_0 189 v243),(0,1,dnm (oMac ((v224.2.1.toNat,b236)::((x1.toNat,b4)::ps))) q248_1 ⟨s248.1⟩ (.pointer (some ⟨b0,0,none⟩)) [])] a w) fx ?_
   rintro s248 z248 a248 w248 ⟨M248,q248_0,q248_1,q248_2,q248_3,q248_4,q248_5,q248_6,st248⟩ hs248 hx248
   have h249:yE R x1 v243 s248=some z248:=hs248
   unfold yE at h249
   refine st248.sqA [7,173,174,175] [(0,1),(172,0)] (λ _ _ st250=>wp_seq ?_)
   refine st250.cs rfl h249 (λ _ h251=>wp_skip (za ?_)) (λ _ h252=>wp_exit (zh (zh (zy ?_))))
   ·
    obtain⟨o253,p253,k253⟩:=bs h251
    refine zi (λ a w=>∃ M1 q253_0 q253_1 q253_2 q253_3 q253_4 q253_5 q253_6,Sx (Frm.chg w0 G) 236 M M1 [oneB q253_0,q253_1,q253_2,q253_3,oneB q253_4,oneB q253_5,oneB q253_6] [(173,dt (v243.length:Int)),(174,dt s248.2),(7,dis (.pointer (some ⟨b4,0,none⟩)))] [(172,0,dtip q253_0 189 v243),(0,1,dnm (oMac ((v224.2.1.toNat,b236)::((x1.toNat,b4)::ps))) q253_1 ⟨o253⟩ (.pointer (some ⟨b0,0,none⟩)) [])] a w) ?_ ?_
    ·
     refine wp_block (wp_seq (wp_region_list ?_))
     obtain⟨v254,p254,h255⟩:=bs p253
     refine st250.segB 2 (sc rfl (xIdxT rfl kS96 (tp rfl) (tp rfl) p254)<|segC) [7,173,174,177] [(0,1),(172,0)] (λ _ _ st256=>?_)
     refine st256.alA 5 zrGAttr [7,173,174,177] [0,172] (λ b258 _ _ _ st258=>?_)
     have st259:=st258.gn
     refine st259.stA 25 5 FldS.id (tp rfl) [7,173,174] [0,172] (λ _ _ st261=>wpList_nil (za ?_))
     obtain⟨v262,p262,h263⟩:=bs h255
     refine st261.sqB (sP 2 (r:=by exact sc rfl (xByte rfl kX9 (tp rfl) cI p262)<|sc rfl (oCB rfl (tp rfl) (Y0 (by decide)))<|.nil)) [7,173,174,181] [(0,1),(25,5),(172,0)] (λ _ _ st264=>?_)
     refine st264.cs rfl h263 (λ _ h265=>wp_region_list ?_) (λ _ h266=>wp_skip (zf (za ?_)))
     ·
      refine st264.segC 5 [7,173,174,182,184,186] [(0,1),(172,0)] (λ _ _ st267=>?_)
      obtain⟨v269,p269,v271,p271,h272⟩:=bsB h265
      refine st267.cSF (l:=[.tmp 184,.tmp 186]) 1 (st267.bkP (sb:=0) ((PV.root.box rfl).fld owMachine.f4) (.tail _ (.head _)) p269 rfl iI) rfl rfl kN122 (st267.st.has 182 _ rfl) (by simp) (.cons (tp rfl) (.cons (tp rfl) .nil)) (FnS.any (jE p271)) [7,173,174] rfl [172] rfl rfl (by decide) (λ _ _ _ _ st268=>?_)
      have st273:=st268.gn
      refine wpList_nil (zf (za ?_))
      cases h272
      exact fx
     cases h266
     exact fx
    rintro a253 w253 ⟨M253,q253_0,q253_1,q253_2,q253_3,q253_4,q253_5,q253_6,st253⟩
    have h274:=k253
    obtain⟨v275,p275,h276⟩:=bs h274
    refine st253.rgA [7,173,174] [(0,1),(172,0)] (λ _ _ st277=>za ?_)
    exact fl h276
   refine zf ?_
   have st278:=st250.asA 0 1 (xO (owMachine.imp4 (xb (λ _ h=>(.tail _ h))))) [172]
   refine za ?_
   have h279:=lo h252 hx248
   exact fl h279
  refine st219.sqA [5,7,36,189] [(0,1)] (λ _ _ st280=>?_)
  refine st280.cs rfl h221 (λ _ h281=>wp_region_list ?_) (λ _ h282=>?_)
  ·
   refine st280.segB 6 (sP 5 (r:=by exact sc rfl (Qv rfl cI (tp rfl))<|.nil)) [191,193,196] [(0,1)] (λ _ _ st283=>?_)
   obtain⟨v285,p285,v287,p287,h288⟩:=bsB h281
   refine st283.cSF (l:=[.tmp 193,.tmp 196]) 1 (st283.bkP (sb:=0) ((PV.root.box rfl).fld owMachine.f4) (.head _) p285 rfl iI) rfl rfl kN122 (st283.st.has 191 _ rfl) (by simp) (.cons (tp rfl) (.cons (tp rfl) .nil)) (FnS.any (jE p287)) [] rfl [] rfl rfl (by decide) (λ _ _ _ _ st284=>?_)
   have st289:=st284.gn
   refine wpList_nil (zf (za ?_))
   exact fl h288
  refine st280.sqA [5,7,36,198] [(0,1)] (λ _ _ st290=>?_)
  refine st290.cs rfl h282 (λ _ h291=>wp_seq (wp_region_list ?_)) (λ _ h292=>?_)
  ·
   obtain⟨v293,p293,v294,p294,h296⟩:=bsB h291
   refine st290.segB 7 (sP 3 (r:=by exact sc rfl (we (l:=[.tmp 201,.tmp 203]) st290.ob.sub rfl kN203 (.cons (lendQ (sb:=0) st290.ob 1 (((PV.root.box rfl).fld owMachine.f4).rowP (.head _) p293) (tp rfl) rfl iI) (.cons (jU st290.ob.sub (tp rfl)) .nil)) (jD p294) (W0 J1 qn))<|segC)) [205,206] [(0,1)] (λ _ _ st297=>?_)
   refine st297.alA 6 zap [205,206] [0] (λ b299 _ _ _ st299=>?_)
   have st300:=st299.gn
   refine st300.stA 26 6 FldS.id (tp rfl) [206] [0] (λ _ _ st302=>?_)
   refine st302.segA 1 [27] [(0,1),(26,6)] (λ _ _ st303=>wpList_nil (za (wp_block ?_)))
   refine st303.sqA [218] [(0,1),(26,6)] (λ _ _ st304=>?_)
   refine st304.cs rfl h296 (λ _ h305=>?_) (λ _ h306=>?_)
   ·
    refine st304.sqA [6] [(0,1)] (λ _ _ st307=>wp_ret (zt (zt (ze ?_))))
    have st308:=st307.asA 0 1 (xO (owMachine.imp4 (xb (λ _ h=>(.tail _ h))))) []
    have h309:=jo h305 k8
    exact st308.rsF (s:=0) 1 rfl rfl rfl iI (bxr h309) y9
   refine st304.sqC [221] [(0,1),(26,6)] (λ _ _ st310=>?_)
   refine st310.cs rfl h306 (λ _ h311=>wp_region_list ?_) (λ _ h312=>?_)
   ·
    refine st310.hdA 0 1 ((PV.root.box rfl).fld owMachine.f5) [26] (λ g313 A313 _ hA313 st313=>?_)
    refine st313.segB 6 (sP 5 (r:=by exact sc rfl (yq (opds:=[.const (.int .i64 (-1))]) rfl kS26 kY26 rfl rfl (by decide) (.cons cI .nil))<|.nil)) [225,229,230] [(0,1)] (λ _ _ st314=>?_)
    refine st314.mvG (s:=229) (sb:=0) 1 3 ((PV.root.box rfl).fld owMachine.f5) (.head _) rfl (wi rfl rfl) rfl (by simp) (by simp) (by decide) rfl iI [225,230] rfl [] rfl rfl rfl rfl (λ G316 H316 st316=>?_)
    have st317:=st316.gs (Gs':=[oneB none,G316,oneB none,H316,oneB none,oneB none,oneB (some b299)]) rfl
    refine st317.tipR (s:=229) 3 rfl rfl (by simp) iI [0] rfl rfl (λ g318 st318=>?_)
    obtain⟨v320,p320,h321⟩:=bs h311
    refine st318.apA 3 yS p320 [225] [0] (λ g319 _ _ _ st319=>?_)
    have st322:=st319.gn
    refine st322.segC 2 [233] [(0,1),(231,3)] (λ _ _ st323=>?_)
    have st325:=st323.tipW (s:=231) 3 rfl rfl iI [0] rfl
    refine st325.shA 0 231 1 3 (tp rfl) [] [] (λ _ _ st324=>?_)
    have st326:=st324.gn
    refine wpList_nil (zf (zf (za ?_)))
    exact fl h321
   refine st310.held (λ _=>True) zJ (λ _ st327=>?_)
   refine st327.tN 0 0 trivial (λ _ st328=>?_)
   refine st328.hdA 0 1 ((PV.root.box rfl).fld owMachine.f5) [26] (λ g329 A329 _ hA329 st329=>?_)
   refine st329.drnE (D:=[_,_,_,_,_,_,_,_]) 8 [0] [[(0,nS)],[(0,nS)],[(208,1)],[(209,2)],[(210,3),(0,nS)],[(26,nS)],[(212,5)],[(213,6)],[(211,4),(214,7)],[(207,0)],[(216,9)],[(217,10),(215,8)]] (by decide +kernel) (by decide) (by decide +kernel) (by decide +kernel) (
    rc rfl rfl (oM rfl (zR rfl))<|rc rfl rfl (oM rfl (zR rfl))<|rc rfl rfl (xNc rfl (tp rfl))<|rc rfl rfl (xFa rfl kF94_5 (tp rfl))<|rc rfl rfl (xLc (sb:=0) (.head _) rfl rfl rfl kT26 (tp rfl) rfl)<|rc rfl rfl (xv GVal.fld1 rfl kF154_1 (tp rfl))<|rc rfl rfl (yf rfl kT3 (tp rfl))<|rc rfl rfl (yq (opds:=[.tmp 213]) rfl kS26 kY26 rfl rfl (by decide) (.cons (tp rfl) .nil))<|.nil) (by
 intro i hi x d hx
 simp only[List.mem_cons,List.not_mem_nil,or_false] at hi
 rcases hi with rfl
 all_goals (injection hx with hx;injection hx with h1 h2;subst h1;subst h2;rfl)) [207,211,214] rfl [(0,1)] rfl iT (λ _ _ st330=>?_)
   refine st330.mvG (s:=211) (sb:=0) 1 2 ((PV.root.box rfl).fld owMachine.f5) (.head _) rfl (wi rfl rfl) rfl (by simp) (by simp) (by decide) rfl iI [207,214] rfl [] rfl rfl rfl rfl (λ G332 H332 st332=>?_)
   have st333:=st332.gs (Gs':=[oneB none,G332,H332,oneB none,oneB none,oneB none,oneB (some b299)]) rfl
   refine st333.tipR (s:=211) 2 rfl rfl (by simp) iI [0] rfl rfl (λ g334 st334=>?_)
   obtain⟨v336,p336,h337⟩:=bs h312
   refine st334.apA 2 yS p336 [207] [0] (λ g335 _ _ _ st335=>?_)
   have st338:=st335.gn
   refine st338.segC 2 [217] [(0,1),(215,2)] (λ _ _ st339=>?_)
   have st341:=st339.tipW (s:=215) 2 rfl rfl iI [0] rfl
   refine st341.shA 0 215 1 2 (tp rfl) [] [] (λ _ _ st340=>?_)
   have st342:=st340.gn
   refine wpList_nil (zf (zf (za ?_)))
   exact fl h337
  refine st290.sqA [234] [(0,1)] (λ _ _ st343=>?_)
  refine st343.cs rfl h292 (λ _ h344=>?_) (λ _ h345=>wp_skip (zf (za ?_)))
  ·
   refine st343.sqA [6] [(0,1)] (λ _ _ st346=>wp_ret (zt (ze ?_)))
   have st347:=st346.asA 0 1 (xO (owMachine.imp4 (xb (λ _ h=>(.tail _ h))))) []
   have h348:=jo h344 k8
   exact st347.rsF (s:=0) 1 rfl rfl rfl iI (bxr h348) y9
  exact fl h345
 rintro a8 w8 ⟨b8,rfl,⟨M8,q8_0,q8_1,q8_2,q8_3,q8_4,q8_5,q8_6,st8⟩⟩
 have h349:=jn k8
 refine st8.sqA [6] [(0,1)] (λ _ _ st350=>wp_ret ?_)
 have st351:=st350.asA 0 1 (xO (owMachine.imp4 (xb (λ _ h=>(.tail _ h))))) []
 exact st351.rsF (s:=0) 1 rfl rfl rfl iI (bxr h349) y9
open Go.RowKit Tryz
set_option maxRecDepth 10000
set_option maxHeartbeats 1600000
theorem kF37_3:fldB prog 37 3 3=true:=by kernel_rfl
instance iF37_3MaD:FldO prog 37 3 3:=⟨kF37_3⟩
instance iF94_4MaD:FldO prog 94 4 4:=⟨Jn⟩
instance iF98_3MaD:FldO prog 98 3 3:=⟨kF98_3⟩
open Go.RowKit Tryz
set_option maxRecDepth 10000
set_option maxHeartbeats 1600000
theorem kN67:fnB prog 67=true:=by kernel_rfl
theorem kP86:isPt prog 86=true:=by kernel_rfl
theorem kN46:fnB prog 46=true:=by kernel_rfl
def xS(R:Rec)(x0:Tree)(x1:List Int)(x2:Str):Option ((Np Machine)×Int):=
(wF x0).bind λ v2=>
(gO ((!v2) == false) (wG x1)).bind λ v3=>
(gO (((!v2)||(!v3)) == false) (zV x2)).bind λ v4=>
if(((!v2)||(!v3))||(!v4))=true then(some ((⟨none⟩:Np Machine),(-1:Int)))
else((jY x0 x1 (120:Int)).bind λ v15=>
(R.impl_machine_load1 v15 x2).bind λ v21=>
some ((⟨some v21.1⟩:Np Machine),v21.2.2))
theorem Yf{R:Rec}(hR:R.ok){x0:Tree}{x1:List Int}{x2:Str}{r:(Np Machine)×Int}(h:xS R x0 x1 x2=some r):Fn prog 59 [dt x0,dt x1,dt x2] (dtup [dt r.1,dt r.2]):=by
 unfold xS at h
 refine fnx (fn:=f59) 1 func59 rfl (oD rfl) rfl (λ M _ _ st0=>?_)
 refine st0.sq2 (sP 1 (r:=by exact sc rfl (oA rfl zbb)<|segC)) [1,2,3] (λ _ _ st1=>wp_seq ?_)
 obtain⟨v2,p2,v3,p3,v4,p4,h7⟩:=bsC h
 refine st1.sq2 (sP 1 (r:=by exact sc rfl (oK (Y9 p2))<|sP 3 (r:=by exact sg rfl rfl (λ hg=>oK (Xa (gh hg p3)))<|sP 4 (r:=by exact sg rfl rfl (λ hg=>oK (yo (gh hg p4)))<|segC)))) [1,2,3,23] (λ _ _ st8=>?_)
 refine st8.cs rfl h7 (λ _ h9=>?_) (λ _ h10=>wp_skip (za (wp_seq (wp_region_list ?_))))
 ·
  refine st8.sq2 (sc rfl (oA rfl zbb)<|segC) [6,7] (λ _ _ st11=>wp_ret (ze ?_))
  have st12:=st11.addL (s:=6) (y:=dt (⟨none⟩:Np Machine)) (np_none.2 (st11.st.has 6 _ rfl)) rfl
  obtain rfl:=Option.some.inj h9
  exact st12.ret2 rfl (st12.frozen (t:=6) rfl) (st12.frozen (t:=7) rfl) ⟨rfl,rfl⟩ rfl
 refine st8.segA 2 [2,24,25] [] (λ _ _ st13=>?_)
 obtain⟨v15,p15,h16⟩:=bs h10
 refine st13.cN (l:=[.tmp 24,.tmp 25,.const (.int .i64 120)]) 0 rfl rfl kN67 (.cons (tp rfl) (.cons (tp rfl) (.cons cI .nil))) (zbf p15) (by simp) [2] rfl [] rfl rfl (λ _ _ _ _ st14=>?_)
 refine st14.nmB (s:=26) 0 rfl rfl iI [] rfl (λ b17 st17=>?_)
 refine st17.segA 1 [2] [(8,0)] (λ _ _ st18=>wpList_nil (za (wp_seq (wp_region_list ?_))))
 refine st18.segA 2 [29] [(8,0),(28,0)] (λ _ _ st19=>?_)
 obtain⟨v21,p21,h22⟩:=bs h16
 refine st19.cSF (l:=[.tmp 29]) 0 (st19.bkN (s:=8) rfl iI) rfl rfl kN68 ((st19.st.has 28 _ rfl).1.trans (st19.st.has 8 _ rfl).1.symm) (by simp) (.cons (tp rfl) .nil) (hR.impl_machine_load1 p21) [] rfl [] rfl rfl (by decide) (λ _ _ _ _ st20=>?_)
 refine st20.segA 5 [10] [(8,0)] (λ _ _ st23=>wpList_nil (za ?_))
 have st24:=st23.unm (s:=8) 0 rfl rfl iI [] rfl
 have st25:=st24.frzB (s:=8) 0 rfl (by simp) iI [10] rfl [] rfl rfl
 refine st25.sq1 [6,7] (λ _ _ st26=>wp_ret ?_)
 have st27:=st26.addL (s:=6) (y:=dt (⟨some v21.1⟩:Np Machine)) (np_some.2 (st26.st.has 6 _ rfl)) rfl
 obtain rfl:=Option.some.inj h22
 exact st27.ret2 rfl (st27.frozen (t:=6) rfl) (st27.frozen (t:=7) rfl) ⟨rfl,rfl⟩ rfl
def xY(_R:Rec)(x3:Int)(v10:Machine)(s13:(List Str)×Int):Option (((List Str)×Int)⊕(List Str)):=
if(cmpI .lss s13.2 (v10.log.length:Int))=true then(Option.bind (α:=(List Str)) ((atI v10.log s13.2).bind λ v19=>
if(cmpI .eql v19.kind x3)=true then((appO 16 s13.1 ([v19.name]:List Str)).bind λ v32=>
some v32)
else(some s13.1)) λ o18=>
(i64 (s13.2+(1:Int))).bind λ v36=>
some (.inl (o18,v36)))
else(some (.inr s13.1))
def j6(R:Rec)(x0:Tree)(x1:List Int)(x2:Str)(x3:Int):Option (List Str):=
(xS R x0 x1 x2).bind λ v2=>
Option.bind (α:=(List Str)) (if v2.1.o.isSome=true then((v2.1.o).bind λ v10=>
zK (λ s13=>xY R x3 v10 s13) ([],(0:Int)))
else(some [])) λ o6=>
some o6
theorem zbh{R:Rec}(hR:R.ok){x0:Tree}{x1:List Int}{x2:Str}{x3:Int}{r:List Str}(h:j6 R x0 x1 x2 x3=some r):FnOwn prog 46 [dt x0,dt x1,dt x2,dt x3] 9 r:=by
 unfold j6 at h
 refine fnxO (fn:=f46) 2 func46 rfl (oD rfl) rfl (λ M w0 _ st0=>?_)
 refine st0.sq2 (sP 1 (r:=by exact sc rfl (oA rfl (yw (α:=Str) (e:=9)))<|.nil)) [1,2,3,4] (λ _ _ st1=>?_)
 obtain⟨v2,p2,h3⟩:=bsW h (Yf hR)
 refine st1.sq1 [3,9] (λ _ _ st4=>?_)
 refine st4.sqB (sc rfl (yZ (α:=Str) (e:=9) rfl kS29)<|segC) [3,9] [(11,0)] (λ _ _ st5=>?_)
 obtain⟨o6,p6,k6⟩:=bs h3
 refine zi (λ a w=>∃ M1 q6_0 q6_1,Sx (Frm.of w0) 44 M M1 [oneB q6_0,oneB q6_1] [] [(11,0,dtip q6_0 9 o6)] a w) ?_ ?_
 ·
  refine st5.sqB (sP 1 (r:=by exact sc rfl (xNepNil rfl kP86 (tp rfl))<|.nil)) [3,9,23] [(11,0)] (λ _ _ st7=>?_)
  refine st7.cs rfl p6 (λ _ h8=>?_) (λ _ h9=>wp_skip (za ?_))
  ·
   obtain⟨v10,p10,h11⟩:=bs h8
   refine st7.sqB (sP 1 (r:=by exact sc rfl (xNcO rfl (tp rfl) p10)<|segC)) [3,27,28,29] [(11,0)] (λ _ _ st12=>wp_block ?_)
   refine zG h11 (λ s13 a w=>∃ M1 q13_0 q13_1,Sx (Frm.of w0) 44 M M1 [oneB q13_0,oneB q13_1] [(3,dt x3),(27,dt v10.log),(28,dt (v10.log.length:Int)),(29,dt s13.2)] [(11,0,dtip q13_0 9 s13.1)] a w) fx ?_
   rintro s13 z13 a13 w13 ⟨M13,q13_0,q13_1,st13⟩ hs13 hx13
   have h14:xY R x3 v10 s13=some z13:=hs13
   unfold xY at h14
   refine st13.sqA [3,27,28,29,30] [(11,0)] (λ _ _ st15=>wp_seq ?_)
   refine st15.cs rfl h14 (λ _ h16=>wp_skip (za ?_)) (λ _ h17=>wp_exit (zh (zh (zy ?_))))
   ·
    obtain⟨o18,p18,k18⟩:=bs h16
    refine zi (λ a w=>∃ M1 q18_0 q18_1,Sx (Frm.of w0) 44 M M1 [oneB q18_0,oneB q18_1] [(3,dt x3),(27,dt v10.log),(28,dt (v10.log.length:Int)),(29,dt s13.2)] [(11,0,dtip q18_0 9 o18)] a w) ?_ ?_
    ·
     refine wp_block (wp_seq (wp_region_list ?_))
     obtain⟨v19,p19,h20⟩:=bs p18
     refine st15.segA 2 [3,27,28,29,32] [(11,0)] (λ _ _ st21=>?_)
     refine st21.alA 1 zrGEvent [3,27,28,29,32] [11] (λ b23 _ _ _ st23=>?_)
     refine st23.stA 13 1 FldS.id (tp rfl) [3,27,28,29] [11] (λ _ _ st25=>wpList_nil (za ?_))
     refine st25.sqC [3,27,28,29,36] [(11,0),(13,1)] (λ _ _ st26=>?_)
     refine st26.cs rfl h20 (λ _ h27=>wp_region_list ?_) (λ _ h28=>wp_skip (zf (za ?_)))
     ·
      refine st26.segC 4 [3,27,28,29,40] [(11,0),(37,0)] (λ _ _ st29=>?_)
      obtain⟨v32,p32,h33⟩:=bs h27
      refine st29.apA 0 yS p32 [3,27,28,29] [] (λ g31 _ _ _ st31=>?_)
      refine st31.segA 1 [3,27,28,29] [(11,0)] (λ _ _ st34=>wpList_nil (zf (za ?_)))
      cases h33
      exact fx
     cases h28
     exact fx
    rintro a18 w18 ⟨M18,q18_0,q18_1,st18⟩
    have h35:=k18
    obtain⟨v36,p36,h37⟩:=bs h35
    refine st18.rgA [3,27,28,29] [(11,0)] (λ _ _ st38=>za ?_)
    exact fl h37
   refine za ?_
   have h39:=lo h17 hx13
   cases h39
   exact fx
  cases h9
  exact fx
 rintro a6 w6 ⟨M6,q6_0,q6_1,st6⟩
 have h40:=k6
 refine st6.sqA [] [(8,0)] (λ _ _ st41=>wp_ret ?_)
 exact st41.ret_own 0 rfl rfl iI h40
def qA(R:Rec)(x0:Tree)(x1:List Int)(x2:Str):Option (List Str):=
(j6 R x0 x1 x2 (1:Int)).bind λ v4=>
some v4
theorem zbW{R:Rec}(hR:R.ok){x0:Tree}{x1:List Int}{x2:Str}{r:List Str}(h:qA R x0 x1 x2=some r):FnN prog 22 [dt x0,dt x1,dt x2] (.ow (Ow.row 9 (Ow.frz (α:=Str))) r):=by
 unfold qA at h
 refine fnN (fn:=f22) 1 func22 rfl (oD rfl) rfl (λ M _ _ st0=>?_)
 refine st0.sq2 (sP 1 (r:=by exact sc rfl (oA rfl (x8 (α:=Str)))<|.nil)) [1,2,3] (λ _ _ st1=>wp_seq (wp_region_list ?_))
 refine st1.segA 3 [7,8,9] [] (λ _ _ st2=>?_)
 obtain⟨v4,p4,h5⟩:=bs h
 refine st2.cN (l:=[.tmp 7,.tmp 8,.tmp 9,.const (.int .i64 1)]) 0 rfl rfl kN46 (.cons (tp rfl) (.cons (tp rfl) (.cons (tp rfl) (.cons cI .nil)))) (zbh hR p4).n (by simp) [] rfl [] rfl rfl (λ _ _ _ _ st3=>?_)
 refine st3.nmR (s:=10) 0 rfl rfl iI [] rfl (λ g6 A6 _ hA6 st6=>?_)
 refine st6.segA 1 [] [(6,0)] (λ _ _ st7=>wpList_nil (za (wp_ret ?_)))
 have st8:=st7.unm (s:=6) 0 rfl rfl iI [] rfl
 exact st8.rnO 0 rfl rfl iI h5
def jF(R:Rec)(x0:Tree)(x1:List Int)(x2:Str):Option (List Str):=
(xS R x0 x1 x2).bind λ v2=>
if(!v2.1.o.isSome)=true then(some [])
else((v2.1.o).bind λ v9=>
(appO 16 [] v9.part).bind λ v14=>
some v14)
theorem zav{R:Rec}(hR:R.ok){x0:Tree}{x1:List Int}{x2:Str}{r:List Str}(h:jF R x0 x1 x2=some r):FnOwn prog 23 [dt x0,dt x1,dt x2] 9 r:=by
 unfold jF at h
 refine fnxO (fn:=f23) 1 func23 rfl (oD rfl) rfl (λ M _ _ st0=>?_)
 refine st0.sq2 (sP 1 (r:=by exact sc rfl (oA rfl (yw (α:=Str) (e:=9)))<|.nil)) [1,2,3] (λ _ _ st1=>?_)
 obtain⟨v2,p2,h3⟩:=bsW h (Yf hR)
 refine st1.sq1 [7] (λ _ _ st4=>wp_seq ?_)
 refine st4.sq2 (sP 1 (r:=by exact sc rfl (xEqpNil rfl kP86 (tp rfl))<|.nil)) [7,17] (λ _ _ st5=>?_)
 refine st5.cs rfl h3 (λ _ h6=>?_) (λ _ h7=>wp_skip (za (wp_seq (wp_region_list ?_))))
 ·
  refine st5.sqB (sc rfl (yZ (α:=Str) (e:=9) rfl kS29)<|segC) [] [(6,0)] (λ _ _ st8=>wp_ret (ze ?_))
  exact st8.ret_own 0 rfl rfl iE h6
 obtain⟨v9,p9,h10⟩:=bs h7
 refine st5.segB 5 (sc rfl (yZ (α:=Str) (e:=9) rfl kS29)<|sP 1 (r:=by exact sc rfl (xNcO rfl (tp rfl) p9)<|segC)) [23] [(19,0)] (λ _ _ st11=>?_)
 obtain⟨v14,p14,h15⟩:=bs h10
 refine st11.apA 0 yS p14 [] [] (λ g13 _ _ _ st13=>?_)
 refine st13.segA 1 [] [(6,0)] (λ _ _ st16=>wpList_nil (za (wp_ret ?_)))
 exact st16.ret_own 0 rfl rfl iI h15
def wu(_R:Rec)(v10:Machine)(s13:(List Str)×Int):Option (((List Str)×Int)⊕(List Str)):=
if(cmpI .lss s13.2 (v10.modules.length:Int))=true then(Option.bind (α:=(List Str)) ((atI v10.modules s13.2).bind λ v19=>
if v19.x.cached=true then((appO 16 s13.1 ([v19.x.name]:List Str)).bind λ v28=>
some v28)
else(some s13.1)) λ o18=>
(i64 (s13.2+(1:Int))).bind λ v32=>
some (.inl (o18,v32)))
else(some (.inr s13.1))
def qB(R:Rec)(x0:Tree)(x1:List Int)(x2:Str):Option (Int×(List Str)):=
(xS R x0 x1 x2).bind λ v2=>
Option.bind (α:=(List Str)) (if v2.1.o.isSome=true then((v2.1.o).bind λ v10=>
zK (λ s13=>wu R v10 s13) ([],(0:Int)))
else(some [])) λ o6=>
some (v2.2,o6)
theorem zbX{R:Rec}(hR:R.ok){x0:Tree}{x1:List Int}{x2:Str}{r:Int×(List Str)}(h:qB R x0 x1 x2=some r):FnN prog 21 [dt x0,dt x1,dt x2] (.t2 (dt r.1) (Ow.row 9 (Ow.frz (α:=Str))) r.2):=by
 unfold qB at h
 refine fnN (fn:=f21) 1 func21 rfl (oD rfl) rfl (λ M w0 _ st0=>?_)
 refine st0.sq2 (sP 2 (r:=by exact sc rfl (oA rfl (yw (α:=Str) (e:=9)))<|.nil)) [1,2,3] (λ _ _ st1=>?_)
 obtain⟨v2,p2,h3⟩:=bsW h (Yf hR)
 refine st1.sq1 [8,9] (λ _ _ st4=>?_)
 refine st4.sqB (sc rfl (yZ (α:=Str) (e:=9) rfl kS29)<|segC) [8,9] [(10,0)] (λ _ _ st5=>?_)
 obtain⟨o6,p6,k6⟩:=bs h3
 refine zi (λ a w=>∃ M1 q6_0,Sx (Frm.of w0) 46 M M1 [oneB q6_0] [(9,dt v2.2)] [(10,0,dtip q6_0 9 o6)] a w) ?_ ?_
 ·
  refine st5.sqB (sP 1 (r:=by exact sc rfl (xNepNil rfl kP86 (tp rfl))<|.nil)) [8,9,22] [(10,0)] (λ _ _ st7=>?_)
  refine st7.cs rfl p6 (λ _ h8=>?_) (λ _ h9=>wp_skip (za ?_))
  ·
   obtain⟨v10,p10,h11⟩:=bs h8
   refine st7.sqB (sP 1 (r:=by exact sc rfl (xNcO rfl (tp rfl) p10)<|segC)) [9,26,27,28] [(10,0)] (λ _ _ st12=>wp_block ?_)
   refine zG h11 (λ s13 a w=>∃ M1 q13_0,Sx (Frm.of w0) 46 M M1 [oneB q13_0] [(9,dt v2.2),(26,dt v10.modules),(27,dt (v10.modules.length:Int)),(28,dt s13.2)] [(10,0,dtip q13_0 9 s13.1)] a w) fx ?_
   rintro s13 z13 a13 w13 ⟨M13,q13_0,st13⟩ hs13 hx13
   have h14:wu R v10 s13=some z13:=hs13
   unfold wu at h14
   refine st13.sqA [9,26,27,28,29] [(10,0)] (λ _ _ st15=>wp_seq ?_)
   refine st15.cs rfl h14 (λ _ h16=>wp_skip (za ?_)) (λ _ h17=>wp_exit (zh (zh (zy ?_))))
   ·
    obtain⟨o18,p18,k18⟩:=bs h16
    refine zi (λ a w=>∃ M1 q18_0,Sx (Frm.of w0) 46 M M1 [oneB q18_0] [(9,dt v2.2),(26,dt v10.modules),(27,dt (v10.modules.length:Int)),(28,dt s13.2)] [(10,0,dtip q18_0 9 o18)] a w) ?_ ?_
    ·
     refine wp_block ?_
     obtain⟨v19,p19,h20⟩:=bs p18
     refine st15.sqB (sP 1 (r:=by exact sc rfl (OpRel.bx (zr rfl kT95 (tp rfl)))<|segC)) [9,12,26,27,28] [(10,0)] (λ _ _ st21=>?_)
     refine st21.sqC [9,12,26,27,28,35] [(10,0)] (λ _ _ st22=>?_)
     refine st22.cs rfl h20 (λ _ h23=>wp_region_list ?_) (λ _ h24=>wp_skip (zf (za ?_)))
     ·
      refine st22.segC 6 [9,26,27,28,41] [(10,0),(36,0)] (λ _ _ st25=>?_)
      obtain⟨v28,p28,h29⟩:=bs h23
      refine st25.apA 0 yS p28 [9,26,27,28] [] (λ g27 _ _ _ st27=>?_)
      refine st27.segA 1 [9,26,27,28] [(10,0)] (λ _ _ st30=>wpList_nil (zf (za ?_)))
      cases h29
      exact fx
     cases h24
     exact fx
    rintro a18 w18 ⟨M18,q18_0,st18⟩
    have h31:=k18
    obtain⟨v32,p32,h33⟩:=bs h31
    refine st18.rgA [9,26,27,28] [(10,0)] (λ _ _ st34=>za ?_)
    exact fl h33
   refine za ?_
   have h35:=lo h17 hx13
   cases h35
   exact fx
  cases h9
  exact fx
 rintro a6 w6 ⟨M6,q6_0,st6⟩
 have h36:=k6
 refine st6.sqA [6] [(7,0)] (λ _ _ st37=>wp_ret ?_)
 have st38:=st37.tipW (s:=7) 0 rfl rfl iI [] rfl
 exact st38.rn2 0 rfl rfl rfl iI h36
end Go.Proofs.YtpmkkijamfgaeaaGreatDoor
