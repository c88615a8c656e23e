import Derived.Test.YtmenakmafojpaaaGreatDoorRB
import Derived.Test.YtmenakmafojpaaaGreatDoorRO
import Derived.Test.YtmenakmafojpaaaGreatDoorRJ
namespace Go.Proofs.YtmenakmafojpaaaGreatDoor
open Go.RowKit Tryz
attribute [local irreducible] OpRel OpdR
set_option maxRecDepth 10000
set_option maxHeartbeats 1600000
theorem kF65_6:fldB prog 65 6 6=true:=by kernel_rfl
theorem kF65_5:fldB prog 65 5 5=true:=by kernel_rfl
theorem kN131:fnB prog 131=true:=by kernel_rfl
theorem kF65_4:fldB prog 65 4 4=true:=by kernel_rfl
theorem kN210:fnB prog 210=true:=by kernel_rfl
theorem kN221:fnB prog 221=true:=by kernel_rfl
theorem kN205:fnB prog 205=true:=by kernel_rfl
theorem kN157:fnB prog 157=true:=by kernel_rfl
theorem kI52:sliB prog 52 83 6=true:=by kernel_rfl
instance iF47_1MbC:FldO prog 47 1 1:=⟨kF47_1⟩
instance iF65_2MbC:FldO prog 65 2 2:=⟨Z8⟩
instance iF65_4MbC:FldO prog 65 4 4:=⟨kF65_4⟩
instance iF65_5MbC:FldO prog 65 5 5:=⟨kF65_5⟩
instance iF65_6MbC:FldO prog 65 6 6:=⟨kF65_6⟩
instance iF83_0MbC:FldO prog 83 0 0:=⟨Qa⟩
instance iF83_1MbC:FldO prog 83 1 1:=⟨kF83_1⟩
instance iF83_3MbC:FldO prog 83 3 3:=⟨kF83_3⟩
instance iF83_4MbC:FldO prog 83 4 4:=⟨kF83_4⟩
instance iF83_5MbC:FldO prog 83 5 5:=⟨XC⟩
def xv(R:Rec)(x1:Int)(x2:List Stmt)(s2:Runner×Int):Option ((Runner×Int)⊕Runner):=
if(cmpI .lss s2.2 (x2.length:Int))=true then(if(cmpI .eql s2.1.left (0:Int))=true then(some (.inr ({ s2.1 with fin:=(6:Int) })))
else((i64 (s2.1.left - (1:Int))).bind λ v13=>
(atI x2 s2.2).bind λ v17=>
(R.spec_runStmt ({ s2.1 with left:=v13 }) x1 v17).bind λ v21=>
if(cmpI .neq v21.fin (0:Int))=true then(some (.inr v21))
else((i64 (s2.2+(1:Int))).bind λ v27=>
some (.inl (v21,v27)))))
else(some (.inr s2.1))
def ZZ(R:Rec)(x0:Runner)(x1:Int)(x2:List Stmt):Option Runner:=
zS (λ s2=>xv R x1 x2 s2) (x0,(0:Int))
theorem za8{R:Rec}(hR:R.ok){x0:Runner}{x1:Int}{x2:List Stmt}{r:Runner}(h:ZZ R x0 x1 x2=some r):FnS prog 158 oRun ⟨x0⟩ [dt x1,dt x2] ⟨r⟩ .gone:=by
 unfold ZZ at h
 refine fnSB (fn:=f158) 0 1 func158 rfl (oD rfl) rfl (λ M G w0 b0 _ st0=>?_)
 refine st0.sqA [1,2,6] [(0,0)] (λ _ _ st1=>wp_block ?_)
 refine zK h (λ s2 a w=>∃ M1 q2_0,Sx (Frm.chg w0 G) 41 M M1 [q2_0] [(1,dt x1),(2,dt x2),(6,dt s2.2)] [(0,0,dnm oRun q2_0 ⟨s2.1⟩ (.pointer (some ⟨b0,0,none⟩)) [])] a w) fx ?_
 rintro s2 z2 a2 w2 ⟨M2,q2_0,st2⟩ hs2 hx2
 have h3:xv R x1 x2 s2=some z2:=hs2
 unfold xv at h3
 refine wp_seq ?_
 refine st2.sqA [1,2,6,10] [(0,0)] (λ _ _ st4=>?_)
 refine st4.cs rfl h3 (λ _ h5=>wp_skip (za (wp_seq (wp_block (wp_seq ?_))))) (λ _ h6=>wp_exit (zi (zi (zC ?_))))
 ·
  refine st4.sqB (sP 3 (r:=by exact sc rfl (xLf (sb:=0) ((PV.root.box rfl).fld owRunner.f6) rfl kT3 (tp rfl) rfl)<|segC)) [1,2,6,17] [(0,0)] (λ _ _ st7=>?_)
  refine st7.cs rfl h5 (λ _ h8=>wp_seq (wp_region_list ?_)) (λ _ h9=>wp_skip (za (wp_seq (wp_region_list ?_))))
  ·
   refine st7.segC 3 [20] [(0,0)] (λ _ _ st10=>?_)
   refine st10.stF (sb:=0) 0 ((PV.root.box rfl).fld owRunner.f5) rfl rfl rfl kT3 (by simp) (tp rfl) cI rfl rfl iI [] rfl [] rfl rfl (λ _ st11=>wpList_nil (za ?_))
   refine wp_ret (zd (zm (zd (zd (zm ?_)))))
   have h12:=lo h8 hx2
   exact(st11.rs0 (s:=0) 0 rfl rfl iI (bx1 h12)).1
  obtain⟨v13,p13,h14⟩:=bs h9
  refine st7.segB 8 (sP 4 (r:=by exact sc rfl (xLf (sb:=0) ((PV.root.box rfl).fld owRunner.f6) rfl kT3 (tp rfl) rfl)<|segC)) [1,2,6,26,28] [(0,0)] (λ _ _ st15=>?_)
  refine st15.stF (sb:=0) 0 ((PV.root.box rfl).fld owRunner.f6) rfl rfl rfl kT3 (by simp) (tp rfl) (tp rfl) rfl rfl iI [1,2,6] rfl [] rfl rfl (λ _ st16=>wpList_nil (za (wp_seq (wp_region_list ?_))))
  obtain⟨v17,p17,h18⟩:=bs h14
  refine st16.segC 6 [1,2,6,29,30,34] [(0,0)] (λ _ _ st19=>?_)
  obtain⟨v21,p21,h22⟩:=bs h18
  refine st19.cNA 0 0 (FnS.any (hR.spec_runStmt p21)) [1,2,6] [] (λ _ _ _ _ st20=>wpList_nil (za ?_))
  refine st20.sqB (sP 3 (r:=by exact sc rfl (xLf (sb:=0) ((PV.root.box rfl).fld owRunner.f5) rfl kT3 (tp rfl) rfl)<|segC)) [1,2,6,40] [(0,0)] (λ _ _ st23=>?_)
  refine st23.cs rfl h22 (λ _ h24=>wp_ret (zm (zd (zd (zm ?_))))) (λ _ h25=>wp_skip (ze (za ?_)))
  ·
   have h26:=lo h24 hx2
   exact(st23.rs0 (s:=0) 0 rfl rfl iI (bx1 h26)).1
  obtain⟨v27,p27,h28⟩:=bs h25
  refine st23.rgA [1,2,6] [(0,0)] (λ _ _ st29=>za ?_)
  exact fl h28
 have h30:=lo h6 hx2
 exact(st4.rs0 (s:=0) 0 rfl rfl iI (bx1 h30)).2
def qY(R:Rec)(x0:Runner)(x1:Int)(x2:Stmt):Option Runner:=
if(cmpI .eql x2.kind (0:Int))=true then((R.spec_importName x0 x2.module).bind λ v8=>
(ZW x2.module (UInt8.ofNat 46)).bind λ v10=>
(atI v10 (0:Int)).bind λ v11=>
if(cmpI .neq v8.1.fin (0:Int))=true then(some v8.1)
else((xH v8.1 v11).bind λ v20=>
if(cmpI .lss v20.2 (0:Int))=true then(some ({ v20.1 with fin:=(1:Int) }))
else((xH v20.1 v11).bind λ v29=>
(xE v29.1 x1 v11 (⟨(1:Int),v29.2⟩:GVal)).bind λ v33=>
some v33)))
else(if(cmpI .eql x2.kind (1:Int))=true then((R.spec_runFrom x0 x1 x2).bind λ v40=>
some v40)
else(if(cmpI .eql x2.kind (2:Int))=true then((R.spec_runStar x0 x1 x2).bind λ v47=>
some v47)
else(if(cmpI .eql x2.kind (3:Int))=true then((xE x0 x1 x2.name (⟨(0:Int),x2.value⟩:GVal)).bind λ v54=>
some v54)
else(if(cmpI .eql x2.kind (4:Int))=true then((atI x0.mods x1).bind λ v60=>
(jY v60.attrs x2.name).bind λ v62=>
if(cmpI .lss v62 (0:Int))=true then(some ({ x0 with fin:=(3:Int) }))
else((atI x0.mods x1).bind λ v76=>
(atI v76.attrs v62).bind λ v78=>
(ZY v78.value).bind λ v79=>
(appO 8 x0.out ([v79]:List Int)).bind λ v88=>
some ({ x0 with out:=v88 })))
else(if(cmpI .eql x2.kind (5:Int))=true then(some ({ x0 with fin:=(4:Int) }))
else(some x0))))))
theorem za9{R:Rec}(hR:R.ok){x0:Runner}{x1:Int}{x2:Stmt}{r:Runner}(h:qY R x0 x1 x2=some r):FnS prog 188 oRun ⟨x0⟩ [dt x1,dt x2] ⟨r⟩ .gone:=by
 unfold qY at h
 refine fnSB (fn:=f188) 1 2 func188 rfl (oD rfl) rfl (λ M G _ b0 _ st0=>?_)
 refine st0.sqA [1,5] [(0,1)] (λ _ _ st1=>?_)
 refine st1.sqA [1,5,9] [(0,1)] (λ _ _ st2=>wp_block ?_)
 refine st2.sqA [1,5,9,10] [(0,1)] (λ _ _ st3=>?_)
 refine st3.cs rfl h (λ _ h4=>wp_seq (wp_region_list ?_)) (λ _ h5=>?_)
 ·
  refine st3.segC 3 [1,5,12,14] [(0,1)] (λ _ _ st6=>?_)
  obtain⟨v8,p8,h9⟩:=bs h4
  refine st6.cNA 1 0 (hR.spec_importName p8) [1,5] [] (λ _ _ _ _ st7=>wpList_nil (za ?_))
  obtain⟨v10,p10,v11,p11,h13⟩:=bsB h9
  refine st7.sqB (sP 2 (r:=by exact sc rfl (oK (za6 p10))<|sc rfl (xIdx rfl kS29 (tp rfl) cI p11)<|segC)) [1,6] [(0,1)] (λ _ _ st14=>wp_seq ?_)
  refine st14.sqB (sP 3 (r:=by exact sc rfl (xLf (sb:=0) ((PV.root.box rfl).fld owRunner.f5) rfl kT3 (tp rfl) rfl)<|segC)) [1,6,25] [(0,1)] (λ _ _ st15=>?_)
  refine st15.cs rfl h13 (λ _ h16=>wp_ret (zd (zm ?_))) (λ _ h17=>wp_skip (za (wp_seq (wp_seq (wp_region_list ?_)))))
  ·
   exact(st15.rs0 (s:=0) 1 rfl rfl iI (bx1 h16)).1
  refine st15.segC 2 [1,6,26,27] [(0,1)] (λ _ _ st18=>?_)
  obtain⟨v20,p20,h21⟩:=bs h17
  refine st18.cNA 1 0 (qq p20) [1,6] [] (λ _ _ _ _ st19=>?_)
  refine st19.segA 1 [1,6,29] [(0,1)] (λ _ _ st22=>wpList_nil (za ?_))
  refine st22.cs rfl h21 (λ _ h23=>wp_seq (wp_region_list ?_)) (λ _ h24=>wp_skip (za (wp_region_list ?_)))
  ·
   refine st22.segC 3 [32] [(0,1)] (λ _ _ st25=>?_)
   refine st25.stF (sb:=0) 1 ((PV.root.box rfl).fld owRunner.f5) rfl rfl rfl kT3 (by simp) (tp rfl) cI rfl rfl iI [] rfl [] rfl rfl (λ _ st26=>wpList_nil (za ?_))
   refine wp_ret (zd (zm ?_))
   exact(st26.rs0 (s:=0) 1 rfl rfl iI (bx1 h23)).1
  refine st22.segC 5 [33,34,35,36,37] [(0,1)] (λ _ _ st27=>?_)
  obtain⟨v29,p29,h30⟩:=bs h24
  refine st27.cNA 1 0 (qq p29) [33,34,35] [] (λ _ _ _ _ st28=>?_)
  refine st28.segB 1 (sc rfl (zX (parts:=[(0,.const (.int .i64 1)),(1,.tmp 38)]) (ns:=[1,1]) (zs:=Yy) rfl rfl kB45 kC45 (λ w a hl=>by
 intro p hp;simp only[List.mem_cons,List.not_mem_nil,or_false] at hp
 rcases hp with rfl | rfl
 ·
  exact⟨by decide,rfl⟩
 ·
  exact⟨by decide,Rep.len (α:=Int) (OpdR.cells (tp rfl) hl)⟩) (λ w a hl=>GVal.parts (x:=(⟨(1:Int),v29.2⟩:GVal)) (OpdR.cells cI hl) (OpdR.cells (tp rfl) hl)))<|.nil) [33,34,35,39] [(0,1)] (λ _ _ st31=>?_)
  obtain⟨v33,p33,h34⟩:=bs h30
  refine st31.cNA 1 0 (FnS.any (qW p33)) [] [] (λ _ _ _ _ st32=>wpList_nil (ze ?_))
  exact(st32.rs0 (s:=0) 1 rfl rfl iI (bx1 h34)).2
 refine st3.sqA [1,5,9,41] [(0,1)] (λ _ _ st35=>?_)
 refine st35.cs rfl h5 (λ _ h36=>wp_region_list ?_) (λ _ h37=>?_)
 ·
  refine st35.segC 3 [43,44,45] [(0,1)] (λ _ _ st38=>?_)
  obtain⟨v40,p40,h41⟩:=bs h36
  refine st38.cNA 1 0 (FnS.any (hR.spec_runFrom p40)) [] [] (λ _ _ _ _ st39=>wpList_nil (ze ?_))
  exact(st39.rs0 (s:=0) 1 rfl rfl iI (bx1 h41)).2
 refine st35.sqA [1,5,9,47] [(0,1)] (λ _ _ st42=>?_)
 refine st42.cs rfl h37 (λ _ h43=>wp_region_list ?_) (λ _ h44=>?_)
 ·
  refine st42.segC 3 [49,50,51] [(0,1)] (λ _ _ st45=>?_)
  obtain⟨v47,p47,h48⟩:=bs h43
  refine st45.cNA 1 0 (FnS.any (hR.spec_runStar p47)) [] [] (λ _ _ _ _ st46=>wpList_nil (ze ?_))
  exact(st46.rs0 (s:=0) 1 rfl rfl iI (bx1 h48)).2
 refine st42.sqA [1,5,9,53] [(0,1)] (λ _ _ st49=>?_)
 refine st49.cs rfl h44 (λ _ h50=>wp_region_list ?_) (λ _ h51=>?_)
 ·
  refine st49.segB 7 (sP 6 (r:=by exact sc rfl (zX (parts:=[(0,.const (.int .i64 0)),(1,.tmp 60)]) (ns:=[1,1]) (zs:=Yy) rfl rfl kB45 kC45 (λ w a hl=>by
 intro p hp;simp only[List.mem_cons,List.not_mem_nil,or_false] at hp
 rcases hp with rfl | rfl
 ·
  exact⟨by decide,rfl⟩
 ·
  exact⟨by decide,Rep.len (α:=Int) (OpdR.cells (tp rfl) hl)⟩) (λ w a hl=>GVal.parts (x:=(⟨(0:Int),x2.value⟩:GVal)) (OpdR.cells cI hl) (OpdR.cells (tp rfl) hl)))<|.nil)) [55,56,58,61] [(0,1)] (λ _ _ st52=>?_)
  obtain⟨v54,p54,h55⟩:=bs h50
  refine st52.cNA 1 0 (FnS.any (qW p54)) [] [] (λ _ _ _ _ st53=>wpList_nil (ze ?_))
  exact(st53.rs0 (s:=0) 1 rfl rfl iI (bx1 h55)).2
 refine st49.sqA [1,5,9,63] [(0,1)] (λ _ _ st56=>?_)
 refine st56.cs rfl h51 (λ _ h57=>wp_seq ?_) (λ _ h58=>?_)
 ·
  obtain⟨v60,p60,v62,p62,h64⟩:=bsB h57
  refine st56.hdR (s:=0) 1 true (λ _=>((PV.root.box rfl).fld owRunner.f2)) rfl rfl iI [] rfl (λ g59 A59 _ hA59 st59=>?_)
  refine st59.hdR (s:=0) 1 true (λ _=>((((PV.root.box rfl).fld owRunner.f2).row (.head _) rfl (λ h=>hA59 h rfl) p60).fld owGModR.f5)) rfl rfl iI [] rfl (λ g61 A61 _ hA61 st61=>?_)
  refine st61.dr (D:=[_,_,_,_,_,_,_,_,_,_,_,_]) zG [[],[0],[0,1],[0,1,2],[],[0,1,2,3,4],[0,1,2,3,4,5],[0,1,2,3,4,5,6],[],[8],[0,1,2,3,4,5,6,7,8,9],[0,1,2,3,4,5,6,7,8,9,10]] [[(0,none)],[(65,some 0)],[(66,some 1)],[(67,some 2),(0,none)],[(1,none)],[(68,some 3),(69,some 4)],[(70,some 5)],[(71,some 6),(0,none)],[(5,none)],[(73,some 8)],[(72,some 7),(74,some 9),(0,none)],[(75,some 10)]] (by decide +kernel) (
   rc rfl rfl (oM rfl (zM rfl))<|rc rfl rfl (xNc rfl (tp rfl))<|rc rfl rfl (xFa rfl Z8 (tp rfl))<|rc rfl rfl (xLc (sb:=0) (.tail _ (.head _)) rfl rfl rfl kT52 (tp rfl) rfl)<|rc rfl rfl (oM rfl (tp rfl))<|rc rfl rfl (xIa (g:=g59) rfl kS52 (tp rfl) (tp rfl) rfl (λ h=>hA59 h rfl) p60)<|rc rfl rfl (xFa rfl XC (tp rfl))<|rc rfl rfl (xLc (sb:=0) (.head _) rfl rfl rfl kT39 (tp rfl) rfl)<|rc rfl rfl (zx Stmt.fld3 rfl QD (tp rfl))<|rc rfl rfl (zn rfl kT9 (tp rfl))<|rc rfl rfl (xc (l:=[.tmp 72,.tmp 74]) st61.ob.sub rfl kN190 (.cons (lendP (sb:=0) st61.ob 1 ((((PV.root.box rfl).fld owRunner.f2).row (.tail _ (.head _)) rfl (λ h=>hA59 h rfl) p60).fld owGModR.f5) (.head _) rfl (ym rfl rfl) (tp rfl) rfl iI) (.cons (wR st61.ob.sub (tp rfl)) .nil)) (XD p62) zV)<|rc rfl rfl (oA rfl (tp rfl))<|.nil) [1,7] rfl [(0,1)] rfl iT (λ _ _ st65=>?_)
  have st66:=st65.ncf (s:=0) 1 rfl rfl iI [] rfl
  refine za (wp_seq ?_)
  refine st66.sqA [1,7,77] [(0,1)] (λ _ _ st67=>?_)
  refine st67.cs rfl h64 (λ _ h68=>wp_seq (wp_region_list ?_)) (λ _ h69=>wp_skip (za ?_))
  ·
   refine st67.segC 3 [80] [(0,1)] (λ _ _ st70=>?_)
   refine st70.stF (sb:=0) 1 ((PV.root.box rfl).fld owRunner.f5) rfl rfl rfl kT3 (by simp) (tp rfl) cI rfl rfl iI [] rfl [] rfl rfl (λ _ st71=>wpList_nil (za ?_))
   refine wp_ret (zd (zm ?_))
   exact(st71.rs0 (s:=0) 1 rfl rfl iI (bx1 h68)).1
  refine st67.held (λ _=>True) zG (λ _ st72=>?_)
  refine st72.tkN (i:=0) (sb:=0) rfl rfl (by decide +kernel) (by decide +kernel) (by decide +kernel) (λ _ _ _ _ h=>h) trivial rfl rfl rfl (λ _ st73=>?_)
  obtain⟨v76,p76,v78,p78,v79,p79,h82⟩:=bsC h69
  refine st73.hdR (s:=0) 1 true (λ _=>((PV.root.box rfl).fld owRunner.f4)) rfl rfl iI [] rfl (λ g74 A74 _ hA74 st74=>?_)
  refine st74.hdR (s:=0) 1 true (λ _=>((PV.root.box rfl).fld owRunner.f2)) rfl rfl iI [] rfl (λ g75 A75 _ hA75 st75=>?_)
  refine st75.hdR (s:=0) 1 true (λ _=>((((PV.root.box rfl).fld owRunner.f2).row (.head _) rfl (λ h=>hA75 h rfl) p76).fld owGModR.f5)) rfl rfl iI [] rfl (λ g77 A77 _ hA77 st77=>?_)
  refine st77.drnE (D:=[_,_,_,_,_,_,_,_,_,_,_,_,_,_,_,_,_,_,_]) 19 [0] [[],[0],[0,1],[0,1,2],[0,1,2,3],[0],[0,5],[0,5,6],[0,5,6,7],[0],[0,5,6,7,8,9],[0,5,6,7,8,9,10],[0,5,6,7,8,9,10,11],[0],[0,5,6,7,8,9,10,11,12,13],[0,5,6,7,8,9,10,11,12,13,14],[0,5,6,7,8,9,10,11,12,13,14,15],[0,5,6,7,8,9,10,11,12,13,14,15,16],[0,5,6,7,8,9,10,11,12,13,14,15,16,17],[0,1,2,3,4,5,6,7,8,9,10,11,12,13,14,15,16,17,18],[0,1,2,3,4,5,6,7,8,9,10,11,12,13,14,15,16,17,18,19],[0,1,2,3,4,5,6,7,8,9,10,11,12,13,14,15,16,17,18,19,20],[0,1,2,3,4,5,6,7,8,9,10,11,12,13,14,15,16,17,18,19,20,21]] [[(0,none)],[(0,none)],[(82,some 1)],[(83,some 2)],[(84,some 3),(0,none)],[(0,none)],[(86,some 5)],[(87,some 6)],[(88,some 7),(0,none)],[(1,none)],[(89,some 8),(90,some 9)],[(91,some 10)],[(92,some 11),(0,none)],[(7,none)],[(93,some 12),(94,some 13)],[(95,some 14)],[(96,some 15),(0,none)],[(97,some 16)],[(98,some 17)],[(85,some 4),(99,some 18)],[(81,some 0)],[(101,some 20)],[(102,some 21),(100,some 19)]] (by decide +kernel) (by decide) (by decide +kernel) (by decide +kernel) (
   rc rfl rfl (oM rfl (zM rfl))<|rc rfl rfl (oM rfl (zM rfl))<|rc rfl rfl (xNc rfl (tp rfl))<|rc rfl rfl (xFa rfl kF65_4 (tp rfl))<|rc rfl rfl (xLc (sb:=0) (.tail _ (.tail _ (.head _))) rfl rfl rfl kT26 (tp rfl) rfl)<|rc rfl rfl (oM rfl (zM rfl))<|rc rfl rfl (xNc rfl (tp rfl))<|rc rfl rfl (xFa rfl Z8 (tp rfl))<|rc rfl rfl (xLc (sb:=0) (.tail _ (.head _)) rfl rfl rfl kT52 (tp rfl) rfl)<|rc rfl rfl (oM rfl (tp rfl))<|rc rfl rfl (xIa (g:=g75) rfl kS52 (tp rfl) (tp rfl) rfl (λ h=>hA75 h rfl) p76)<|rc rfl rfl (xFa rfl XC (tp rfl))<|rc rfl rfl (xLc (sb:=0) (.head _) rfl rfl rfl kT39 (tp rfl) rfl)<|rc rfl rfl (oM rfl (tp rfl))<|rc rfl rfl (xIa (g:=g77) rfl kS39 (tp rfl) (tp rfl) rfl (λ h=>hA77 h rfl) p78)<|rc rfl rfl (xFa rfl kF47_1 (tp rfl))<|rc rfl rfl (xLf (sb:=0) ((((((PV.root.box rfl).fld owRunner.f2).row (.tail _ (.head _)) rfl (λ h=>hA75 h rfl) p76).fld owGModR.f5).row (.head _) rfl (λ h=>hA77 h rfl) p78).fld GAttr.z1) rfl kT45 (tp rfl) rfl)<|rc rfl rfl (zP (l:=[.tmp 97]) rfl kN210 (.cons (tp rfl) .nil) (spec_shown_w p79))<|rc rfl rfl (yM (opds:=[.tmp 98]) rfl kS26 kY26 rfl rfl (by decide) (.cons (tp rfl) .nil))<|.nil) (by
 intro i hi x d hx
 simp only[List.mem_cons,List.not_mem_nil,or_false] at hi
 rcases hi with rfl
 all_goals (injection hx with hx;injection hx with h1 h2;subst h1;subst h2;rfl)) [81,85,99] rfl [(0,1)] rfl iT (λ _ _ st83=>?_)
  refine st83.mvG (s:=85) (sb:=0) 1 0 ((PV.root.box rfl).fld owRunner.f4) (.tail _ (.tail _ (.head _))) rfl (ym rfl rfl) rfl (by simp) (by simp) (by decide) rfl iI [81,99] rfl [] rfl rfl rfl rfl (λ _ H85 st85=>?_)
  refine st85.tipR (s:=85) 0 rfl rfl (by simp) iI [0] rfl rfl (λ g86 st86=>?_)
  obtain⟨v88,p88,h89⟩:=bs h82
  refine st86.app 0 rfl rfl kE26 rfl rfl rfl xW p88 [81] rfl [0] rfl rfl (λ g87 _ _ _ st87=>?_)
  refine st87.segC 2 [102] [(0,1),(100,0)] (λ _ _ st90=>?_)
  have st92:=st90.tipW (s:=100) 0 rfl rfl iI [0] rfl
  refine st92.stH (sb:=0) (tv:=100) 1 0 rfl rfl rfl kT26 (by simp) (by simp) (by decide) (tp rfl) rfl rfl iI iI [] rfl [] rfl rfl rfl (λ _ _ st91=>wpList_nil (ze ?_))
  exact(st91.rs0 (s:=0) 1 rfl rfl iI (bx1 h89)).2
 refine st56.sqA [103] [(0,1)] (λ _ _ st93=>?_)
 refine st93.cs rfl h58 (λ _ h94=>wp_region_list ?_) (λ _ h95=>wp_skip (ze ?_))
 ·
  refine st93.segC 3 [107] [(0,1)] (λ _ _ st96=>?_)
  refine st96.stF (sb:=0) 1 ((PV.root.box rfl).fld owRunner.f5) rfl rfl rfl kT3 (by simp) (tp rfl) cI rfl rfl iI [] rfl [] rfl rfl (λ _ st97=>wpList_nil (ze ?_))
  exact(st97.rs0 (s:=0) 1 rfl rfl iI (bx1 h94)).2
 exact(st93.rs0 (s:=0) 1 rfl rfl iI (bx1 h95)).2
def xw(_R:Rec)(x1:Int)(v13:List GAttr)(s19:Runner×Int):Option ((Runner×Int)⊕Runner):=
if(cmpI .lss s19.2 (v13.length:Int))=true then(Option.bind (α:=Runner) ((atI v13 s19.2).bind λ v25=>
(atI v25.name.l (0:Int)).bind λ v26=>
if(cmpB .neq v26 (UInt8.ofNat 122))=true then((atI v13 s19.2).bind λ v32=>
(atI v13 s19.2).bind λ v33=>
(xE s19.1 x1 v32.name v33.value).bind λ v38=>
some v38)
else(some s19.1)) λ o24=>
(i64 (s19.2+(1:Int))).bind λ v41=>
some (.inl (o24,v41)))
else(some (.inr s19.1))
def qZ(R:Rec)(x0:Runner)(x1:Int)(x2:Stmt):Option Runner:=
(R.spec_importName x0 x2.module).bind λ v4=>
if(cmpI .neq v4.1.fin (0:Int))=true then(some v4.1)
else((atI v4.1.mods v4.2).bind λ v11=>
(appO 32 [] v11.attrs).bind λ v13=>
zS (λ s19=>xw R x1 v13 s19) (v4.1,(0:Int)))
theorem zba{R:Rec}(hR:R.ok){x0:Runner}{x1:Int}{x2:Stmt}{r:Runner}(h:qZ R x0 x1 x2=some r):FnS prog 209 oRun ⟨x0⟩ [dt x1,dt x2] ⟨r⟩ .gone:=by
 unfold qZ at h
 refine fnSB (fn:=f209) 0 1 func209 rfl (oD rfl) rfl (λ M G w0 b0 _ st0=>?_)
 refine st0.sqA [1,5] [(0,0)] (λ _ _ st1=>wp_seq (wp_region_list ?_))
 refine st1.segC 3 [1,9,11] [(0,0)] (λ _ _ st2=>?_)
 obtain⟨v4,p4,h5⟩:=bs h
 refine st2.cNA 0 0 (hR.spec_importName p4) [1] [] (λ _ _ _ _ st3=>?_)
 refine st3.segA 1 [1,6] [(0,0)] (λ _ _ st6=>wpList_nil (za (wp_seq ?_)))
 refine st6.sqB (sP 3 (r:=by exact sc rfl (xLf (sb:=0) ((PV.root.box rfl).fld owRunner.f5) rfl kT3 (tp rfl) rfl)<|segC)) [1,6,17] [(0,0)] (λ _ _ st7=>?_)
 refine st7.cs rfl h5 (λ _ h8=>wp_ret (zd ?_)) (λ _ h9=>wp_skip (za ?_))
 ·
  exact(st7.rs0 (s:=0) 0 rfl rfl iI (bx1 h8)).1
 obtain⟨v11,p11,v13,p13,h15⟩:=bsB h9
 refine st7.hdR (s:=0) 0 true (λ _=>((PV.root.box rfl).fld owRunner.f2)) rfl rfl iI [] rfl (λ g10 A10 _ hA10 st10=>?_)
 refine st10.hdR (s:=0) 0 true (λ _=>((((PV.root.box rfl).fld owRunner.f2).row (.head _) rfl (λ h=>hA10 h rfl) p11).fld owGModR.f5)) rfl rfl iI [] rfl (λ g12 A12 _ hA12 st12=>?_)
 refine st12.sqB (sc rfl (wB (α:=GAttr) (e:=47) rfl kS39)<|sP 5 (r:=by exact sc rfl (xIa (g:=g10) rfl kS52 (tp rfl) (tp rfl) rfl (λ h=>hA10 h rfl) p11)<|sP 2 (r:=by exact sc rfl (op_app1 rfl kE39 (tp rfl) (row_hd (sb:=0) ((((PV.root.box rfl).fld owRunner.f2).row (.tail _ (.head _)) rfl (λ h=>hA10 h rfl) p11).fld owGModR.f5) (.head _) rfl (ym rfl rfl) rfl (tp rfl)) p13)<|segC))) [1,7] [(0,0)] (λ _ _ st16=>?_)
 have st17:=st16.ncf (s:=0) 0 rfl rfl iI [] rfl
 refine st17.sqA [1,7,8] [(0,0)] (λ _ _ st18=>wp_block ?_)
 refine zK h15 (λ s19 a w=>∃ M1 q19_0,Sx (Frm.chg w0 G) 54 M M1 [q19_0] [(1,dt x1),(7,dt v13),(8,dt s19.2)] [(0,0,dnm oRun q19_0 ⟨s19.1⟩ (.pointer (some ⟨b0,0,none⟩)) [])] a w) fx ?_
 rintro s19 z19 a19 w19 ⟨M19,q19_0,st19⟩ hs19 hx19
 have h20:xw R x1 v13 s19=some z19:=hs19
 unfold xw at h20
 refine wp_seq ?_
 refine st19.sqA [1,7,8,31] [(0,0)] (λ _ _ st21=>?_)
 refine st21.cs rfl h20 (λ _ h22=>wp_skip (za ?_)) (λ _ h23=>wp_exit (zi (zi (zC ?_))))
 ·
  obtain⟨o24,p24,k24⟩:=bs h22
  refine zk (λ a w=>∃ M1 q24_0,Sx (Frm.chg w0 G) 54 M M1 [q24_0] [(1,dt x1),(7,dt v13),(8,dt s19.2)] [(0,0,dnm oRun q24_0 ⟨o24⟩ (.pointer (some ⟨b0,0,none⟩)) [])] a w) ?_ ?_
  ·
   refine wp_block ?_
   obtain⟨v25,p25,v26,p26,h28⟩:=bsB p24
   refine st21.sqB (sP 5 (r:=by exact sc rfl (xByte rfl kX9 (tp rfl) cI p26)<|sc rfl (oCB rfl (tp rfl) (Z3 (by decide)))<|.nil)) [1,7,8,40] [(0,0)] (λ _ _ st29=>?_)
   refine st29.cs rfl h28 (λ _ h30=>?_) (λ _ h31=>wp_skip (ze (za ?_)))
   ·
    obtain⟨v32,p32,v33,p33,h35⟩:=bsB h30
    refine st29.drn (D:=[_,_,_,_,_,_,_,_,_,_,_,_]) zG 12 [[],[],[],[],[2,3],[2,3,4],[2,3,4,5],[],[],[7,8],[7,8,9],[7,8,9,10],[0,1,2,3,4,5,6,7,8,9,10,11]] [[(0,none)],[(1,none)],[(7,none)],[(8,none)],[(43,some 2),(44,some 3)],[(45,some 4)],[(46,some 5)],[(7,none)],[(8,none)],[(48,some 7),(49,some 8)],[(50,some 9)],[(51,some 10)],[(41,some 0),(42,some 1),(47,some 6),(52,some 11)]] (by decide +kernel) (by decide) (
     rc rfl rfl (oM rfl (zM rfl))<|rc rfl rfl (oM rfl (tp rfl))<|rc rfl rfl (oM rfl (tp rfl))<|rc rfl rfl (oM rfl (tp rfl))<|rc rfl rfl (xIdx rfl kS39 (tp rfl) (tp rfl) p32)<|rc rfl rfl (zx GAttr.fld0 rfl kF47_0 (tp rfl))<|rc rfl rfl (zn rfl kT9 (tp rfl))<|rc rfl rfl (oM rfl (tp rfl))<|rc rfl rfl (oM rfl (tp rfl))<|rc rfl rfl (xIdx rfl kS39 (tp rfl) (tp rfl) p33)<|rc rfl rfl (zx GAttr.fld1 rfl kF47_1 (tp rfl))<|rc rfl rfl (zn rfl kT45 (tp rfl))<|.nil) [1,7,8,41,42,47,52] rfl [(0,0)] rfl iT (λ _ _ st36=>?_)
    obtain⟨v38,p38,h39⟩:=bs h35
    refine st36.cNA 0 0 (FnS.any (qW p38)) [1,7,8] [] (λ _ _ _ _ st37=>wpList_nil (ze (za ?_)))
    cases h39
    exact fx
   cases h31
   exact fx
  rintro a24 w24 ⟨M24,q24_0,st24⟩
  have h40:=k24
  obtain⟨v41,p41,h42⟩:=bs h40
  refine st24.rgA [1,7,8] [(0,0)] (λ _ _ st43=>za ?_)
  exact fl h42
 have h44:=lo h23 hx19
 exact(st21.rs0 (s:=0) 0 rfl rfl iI (bx1 h44)).2
def q5(R:Rec)(x0:Runner)(x1:Int)(x2:Stmt):Option Runner:=
(atI x0.mods x1).bind λ v3=>
(qf v3).bind λ v5=>
(qX v5 x2.level x2.module).bind λ v6=>
(yU v6).bind λ v12=>
if(!v12)=true then(some ({ x0 with fin:=(5:Int) }))
else((R.spec_importName x0 v6).bind λ v21=>
if(cmpI .neq v21.1.fin (0:Int))=true then(some v21.1)
else((R.spec_fromName v21.1 v21.2 x2.name).bind λ v29=>
if(cmpI .eql v29.1.fin (0:Int))=true then((xE v29.1 x1 x2.name v29.2).bind λ v40=>
some v40)
else(some v29.1)))
theorem zbb{R:Rec}(hR:R.ok){x0:Runner}{x1:Int}{x2:Stmt}{r:Runner}(h:q5 R x0 x1 x2=some r):FnS prog 208 oRun ⟨x0⟩ [dt x1,dt x2] ⟨r⟩ .gone:=by
 unfold q5 at h
 refine fnSB (fn:=f208) 0 2 func208 rfl (oD rfl) rfl (λ M G _ b0 _ st0=>?_)
 refine st0.sqA [1,5] [(0,0)] (λ _ _ st1=>wp_seq ?_)
 obtain⟨v3,p3,v5,p5,v6,p6,h9⟩:=bsC h
 refine st1.hdR (s:=0) 0 true (λ _=>((PV.root.box rfl).fld owRunner.f2)) rfl rfl iI [] rfl (λ g2 A2 _ hA2 st2=>?_)
 refine st2.hdW (s:=0) 0 true (λ _=>(((PV.root.box rfl).fld owRunner.f2).row (.head _) rfl (λ h=>hA2 h rfl) p3)) rfl rfl iI [] rfl (λ cs4 hS4 st4=>?_)
 refine st4.dr (D:=[_,_,_,_,_,_,_,_,_,_,_,_,_,_]) zG [[],[0],[0,1],[0,1,2],[],[0,1,2,3,4],[0,1,2,3,4,5],[0,1,2,3,4,5,6],[],[8],[],[10],[0,1,2,3,4,5,6,7,8,9,10,11],[0,1,2,3,4,5,6,7,8,9,10,11,12]] [[(0,none)],[(9,some 0)],[(10,some 1)],[(11,some 2),(0,none)],[(1,none)],[(12,some 3),(13,some 4)],[(14,some 5),(0,none)],[(15,some 6),(0,none)],[(5,none)],[(17,some 8)],[(5,none)],[(19,some 10)],[(16,some 7),(18,some 9),(20,some 11)],[(21,some 12)]] (by decide +kernel) (
  rc rfl rfl (oM rfl (zM rfl))<|rc rfl rfl (xNc rfl (tp rfl))<|rc rfl rfl (xFa rfl Z8 (tp rfl))<|rc rfl rfl (xLc (sb:=0) (.tail _ (.head _)) rfl rfl rfl kT52 (tp rfl) rfl)<|rc rfl rfl (oM rfl (tp rfl))<|rc rfl rfl (xIa (g:=g2) rfl kS52 (tp rfl) (tp rfl) rfl (λ h=>hA2 h rfl) p3)<|rc rfl rfl (xLw (sb:=0) (.head _) rfl (hS4 rfl) rfl kT83 (tp rfl) rfl)<|rc rfl rfl (xc (l:=[.tmp 15]) st4.ob.sub rfl kN221 (.cons (lendP (sb:=0) st4.ob 0 (((PV.root.box rfl).fld owRunner.f2).row (.tail _ (.head _)) rfl (λ h=>hA2 h rfl) p3) (.head _) rfl (fits_all rfl (hS4 rfl)) (tp rfl) rfl iI) .nil) (zag p5) Yn)<|rc rfl rfl (zx Stmt.fld2 rfl kF104_2 (tp rfl))<|rc rfl rfl (zn rfl kT3 (tp rfl))<|rc rfl rfl (zx Stmt.fld1 rfl kF104_1 (tp rfl))<|rc rfl rfl (zn rfl kT9 (tp rfl))<|rc rfl rfl (zP (l:=[.tmp 16,.tmp 18,.tmp 20]) rfl kN205 (.cons (tp rfl) (.cons (tp rfl) (.cons (tp rfl) .nil))) (za7 p6))<|rc rfl rfl (oA rfl (tp rfl))<|.nil) [1,5,6] rfl [(0,0)] rfl iT (λ _ _ st10=>?_)
 have st11:=st10.ncf (s:=0) 0 rfl rfl iI [] rfl
 refine za (wp_seq ?_)
 obtain⟨v12,p12,h13⟩:=bsW h9 Zf
 refine st11.sqA [1,5,6,24] [(0,0)] (λ _ _ st14=>?_)
 refine st14.cs rfl h13 (λ _ h15=>wp_seq (wp_region_list ?_)) (λ _ h16=>wp_skip (za (wp_seq (wp_region_list ?_))))
 ·
  refine st14.segC 3 [27] [(0,0)] (λ _ _ st17=>?_)
  refine st17.stF (sb:=0) 0 ((PV.root.box rfl).fld owRunner.f5) rfl rfl rfl kT3 (by simp) (tp rfl) cI rfl rfl iI [] rfl [] rfl rfl (λ _ st18=>wpList_nil (za ?_))
  refine wp_ret (zd ?_)
  exact(st18.rs0 (s:=0) 0 rfl rfl iI (bx1 h15)).1
 refine st14.segC 2 [1,5,28,29] [(0,0)] (λ _ _ st19=>?_)
 obtain⟨v21,p21,h22⟩:=bs h16
 refine st19.cNA 0 0 (hR.spec_importName p21) [1,5] [] (λ _ _ _ _ st20=>?_)
 refine st20.segA 1 [1,5,7] [(0,0)] (λ _ _ st23=>wpList_nil (za (wp_seq ?_)))
 refine st23.sqB (sP 3 (r:=by exact sc rfl (xLf (sb:=0) ((PV.root.box rfl).fld owRunner.f5) rfl kT3 (tp rfl) rfl)<|segC)) [1,5,7,35] [(0,0)] (λ _ _ st24=>?_)
 refine st24.cs rfl h22 (λ _ h25=>wp_ret (zd ?_)) (λ _ h26=>wp_skip (za (wp_seq (wp_region_list ?_))))
 ·
  exact(st24.rs0 (s:=0) 0 rfl rfl iI (bx1 h25)).1
 refine st24.segC 4 [1,5,36,37,39] [(0,0)] (λ _ _ st27=>?_)
 obtain⟨v29,p29,h30⟩:=bs h26
 refine st27.cNA 0 0 (hR.spec_fromName p29) [1,5] [] (λ _ _ _ _ st28=>?_)
 refine st28.alloc 1 rfl rfl kZ45 Wg (by simp) [1,5,40] rfl [0] rfl rfl (λ b32 _ _ _ st32=>?_)
 refine st32.store (sb:=8) 1 FldS.id rfl rfl rfl kT45 rfl rfl (tp rfl) rfl [1,5] rfl [0] rfl rfl (λ _ _ st34=>wpList_nil (za ?_))
 refine st34.sqB (sP 3 (r:=by exact sc rfl (xLf (sb:=0) ((PV.root.box rfl).fld owRunner.f5) rfl kT3 (tp rfl) rfl)<|segC)) [1,5,45] [(0,0),(8,1)] (λ _ _ st35=>?_)
 refine st35.cs rfl h30 (λ _ h36=>wp_region_list ?_) (λ _ h37=>wp_skip ?_)
 ·
  refine st35.segC 5 [46,47,49,50] [(0,0)] (λ _ _ st38=>?_)
  obtain⟨v40,p40,h41⟩:=bs h36
  refine st38.cNA 0 0 (FnS.any (qW p40)) [] [] (λ _ _ _ _ st39=>wpList_nil ?_)
  exact(st39.rs0 (s:=0) 0 rfl rfl iI (bx1 h41)).2
 exact(st35.rs0 (s:=0) 0 rfl rfl iI (bx1 h37)).2
def qw(R:Rec)(x0:Runner)(x1:Int)(x2:Str):Option (Runner×GVal):=
(atI x0.mods x1).bind λ v4=>
(jY v4.attrs x2).bind λ v6=>
if(cmpI .geq v6 (0:Int))=true then((atI x0.mods x1).bind λ v15=>
(atI v15.attrs v6).bind λ v17=>
some (x0,v17.value))
else((atI x0.mods x1).bind λ v25=>
(Zg v25.name x2).bind λ v26=>
(atI x0.mods x1).bind λ v32=>
(gO (cmpI .eql v32.kind (1:Int) == false) (yU v26)).bind λ v33=>
if(cmpI .eql v32.kind (1:Int)||(!v33))=true then(some ({ x0 with fin:=(2:Int) },(⟨0,0⟩:GVal)))
else((xH x0 v26).bind λ v47=>
(gO (cmpI .lss v47.2 (0:Int) == true) (jZ v47.1 v26)).bind λ v51=>
if(cmpI .lss v47.2 (0:Int)&&cmpI .eql v51.2.kind (0:Int))=true then(some ({ (if(cmpI .lss v47.2 (0:Int) == true)=true then v51.1 else v47.1) with fin:=(2:Int) },(⟨0,0⟩:GVal)))
else((R.spec_importName (if(cmpI .lss v47.2 (0:Int) == true)=true then v51.1 else v47.1) v26).bind λ v63=>
some (v63.1,(⟨(1:Int),v63.2⟩:GVal)))))
theorem zaP{R:Rec}(hR:R.ok){x0:Runner}{x1:Int}{x2:Str}{r:Runner×GVal}(h:qw R x0 x1 x2=some r):FnS prog 222 oRun ⟨x0⟩ [dt x1,dt x2] ⟨r.1⟩ (.frz (dt r.2)):=by
 unfold qw at h
 refine fnSB (fn:=f222) 0 2 func222 rfl (oD rfl) rfl (λ M G _ b0 _ st0=>wp_seq (wp_region_list ?_))
 refine st0.alloc 1 rfl rfl kZ45 Wg (by simp) [1,2] rfl [0] rfl rfl (λ b2 _ _ _ st2=>wpList_nil (za (wp_seq ?_)))
 obtain⟨v4,p4,v6,p6,h8⟩:=bsB h
 refine st2.hdR (s:=0) 0 true (λ _=>((PV.root.box rfl).fld owRunner.f2)) rfl rfl iI [6] rfl (λ g3 A3 _ hA3 st3=>?_)
 refine st3.hdR (s:=0) 0 true (λ _=>((((PV.root.box rfl).fld owRunner.f2).row (.head _) rfl (λ h=>hA3 h rfl) p4).fld owGModR.f5)) rfl rfl iI [6] rfl (λ g5 A5 _ hA5 st5=>?_)
 refine st5.sqB (sP 5 (r:=by exact sc rfl (xIa (g:=g3) rfl kS52 (tp rfl) (tp rfl) rfl (λ h=>hA3 h rfl) p4)<|sP 3 (r:=by exact sc rfl (xc (l:=[.tmp 16,.tmp 17]) st5.ob.sub rfl kN190 (.cons (lendP (sb:=0) st5.ob 0 ((((PV.root.box rfl).fld owRunner.f2).row (.tail _ (.head _)) rfl (λ h=>hA3 h rfl) p4).fld owGModR.f5) (.head _) rfl (ym rfl rfl) (tp rfl) rfl iI) (.cons (wR st5.ob.sub (tp rfl)) .nil)) (XD p6) zV)<|segC))) [1,2,7] [(0,0),(6,1)] (λ _ _ st9=>?_)
 have st10:=st9.ncf (s:=0) 0 rfl rfl iI [6] rfl
 refine st10.sqA [1,2,7,20] [(0,0),(6,1)] (λ _ _ st11=>?_)
 refine st11.cs rfl h8 (λ _ h12=>wp_seq (wp_region_list ?_)) (λ _ h13=>wp_skip (za ?_))
 ·
  obtain⟨v15,p15,v17,p17,h19⟩:=bsB h12
  refine st11.hdR (s:=0) 0 true (λ _=>((PV.root.box rfl).fld owRunner.f2)) rfl rfl iI [6] rfl (λ g14 A14 _ hA14 st14=>?_)
  refine st14.hdR (s:=0) 0 true (λ _=>((((PV.root.box rfl).fld owRunner.f2).row (.head _) rfl (λ h=>hA14 h rfl) p15).fld owGModR.f5)) rfl rfl iI [6] rfl (λ g16 A16 _ hA16 st16=>?_)
  refine st16.segB 12 (sP 5 (r:=by exact sc rfl (xIa (g:=g14) rfl kS52 (tp rfl) (tp rfl) rfl (λ h=>hA14 h rfl) p15)<|sP 3 (r:=by exact sc rfl (xIa (g:=g16) rfl kS39 (tp rfl) (tp rfl) rfl (λ h=>hA16 h rfl) p17)<|sP 1 (r:=by exact sc rfl (xLf (sb:=0) ((((((PV.root.box rfl).fld owRunner.f2).row (.tail _ (.head _)) rfl (λ h=>hA14 h rfl) p15).fld owGModR.f5).row (.head _) rfl (λ h=>hA16 h rfl) p17).fld GAttr.z1) rfl kT45 (tp rfl) rfl)<|.nil)))) [32] [(0,0),(6,1)] (λ _ _ st20=>?_)
  refine st20.store (sb:=6) 1 FldS.id rfl rfl rfl kT45 rfl rfl (tp rfl) rfl [] rfl [0] rfl rfl (λ _ _ st22=>wpList_nil ?_)
  have st23:=st22.ncf (s:=0) 0 rfl rfl iI [6] rfl
  refine za ?_
  refine wp_ret (zd ?_)
  exact st23.rsC (s:=0) 0 rfl kT45 rfl rfl iI (bxr h19)
 obtain⟨v25,p25,v26,p26,h28⟩:=bsB h13
 refine st11.hdR (s:=0) 0 true (λ _=>((PV.root.box rfl).fld owRunner.f2)) rfl rfl iI [6] rfl (λ g24 A24 _ hA24 st24=>?_)
 refine st24.sqB (sP 5 (r:=by exact sc rfl (xIa (g:=g24) rfl kS52 (tp rfl) (tp rfl) rfl (λ h=>hA24 h rfl) p25)<|sP 1 (r:=by exact sc rfl (xLf (sb:=0) ((((PV.root.box rfl).fld owRunner.f2).row (.head _) rfl (λ h=>hA24 h rfl) p25).fld owGModR.f0) rfl kT9 (tp rfl) rfl)<|sP 1 (r:=by exact sc rfl (oK (QL p26))<|segC)))) [1,8] [(0,0),(6,1)] (λ _ _ st29=>?_)
 have st30:=st29.ncf (s:=0) 0 rfl rfl iI [6] rfl
 refine wp_seq ?_
 obtain⟨v32,p32,v33,p33,h35⟩:=bsB h28
 refine st30.hdR (s:=0) 0 true (λ _=>((PV.root.box rfl).fld owRunner.f2)) rfl rfl iI [6] rfl (λ g31 A31 _ hA31 st31=>?_)
 refine st31.sqB (sP 5 (r:=by exact sc rfl (xIa (g:=g31) rfl kS52 (tp rfl) (tp rfl) rfl (λ h=>hA31 h rfl) p32)<|sP 1 (r:=by exact sc rfl (xLf (sb:=0) ((((PV.root.box rfl).fld owRunner.f2).row (.head _) rfl (λ h=>hA31 h rfl) p32).fld owGModR.f1) rfl kT3 (tp rfl) rfl)<|sP 3 (r:=by exact sg rfl rfl (λ hg=>oK (Zf (gh hg p33)))<|sP 1 (r:=by exact sc rfl (yW rfl (tp rfl) (zb rfl))<|.nil))))) [8,56] [(0,0),(6,1)] (λ _ _ st36=>?_)
 have st37:=st36.ncf (s:=0) 0 rfl rfl iI [6] rfl
 refine st37.cs rfl h35 (λ _ h38=>wp_seq (wp_region_list ?_)) (λ _ h39=>wp_skip (za (wp_seq (wp_seq (wp_region_list ?_)))))
 ·
  refine st37.segC 3 [59] [(0,0),(6,1)] (λ _ _ st40=>?_)
  refine st40.stF (sb:=0) 0 ((PV.root.box rfl).fld owRunner.f5) rfl rfl rfl kT3 (by simp) (tp rfl) cI rfl rfl iI [] rfl [6] rfl rfl (λ _ st41=>wpList_nil (za (wp_seq (wp_region_list ?_))))
  refine st41.segB 1 (sc rfl (zX (parts:=[]) (ns:=[1,1]) (zs:=Yy) rfl rfl kB45 kC45 (λ w a hl=>by simp) (λ w a hl=>GVal.parts (x:=(⟨0,0⟩:GVal)) ⟨rfl,trivial⟩ ⟨rfl,trivial⟩))<|.nil) [60] [(0,0),(6,1)] (λ _ _ st42=>?_)
  refine st42.store (sb:=6) 1 FldS.id rfl rfl rfl kT45 rfl rfl (tp rfl) rfl [] rfl [0] rfl rfl (λ _ _ st44=>wpList_nil (za ?_))
  refine wp_ret (zd ?_)
  exact st44.rsC (s:=0) 0 rfl kT45 rfl rfl iI (bxr h38)
 refine st37.segC 2 [8,61,62] [(0,0),(6,1)] (λ _ _ st45=>?_)
 obtain⟨v47,p47,h48⟩:=bs h39
 refine st45.cNA 0 0 (qq p47) [8] [6] (λ _ _ _ _ st46=>?_)
 refine st46.segB 4 (sc rfl (oCI rfl (tp rfl) cI)<|sc rfl (oM rfl (tp rfl))<|sg rfl rfl (λ hg=>oM rfl (zM rfl))<|sg rfl rfl (λ hg=>oM rfl (tp rfl))<|.nil) [8,65,66,67] [(0,0),(6,1)] (λ _ _ st49=>?_)
 obtain⟨v51,p51,h52⟩:=bs h48
 refine st49.cSFgB (sb:=0) (l:=[.tmp 67]) 0 rfl iI rfl rfl rfl kN157 (λ hg=>(st49.st.has 66 _ rfl).1 hg) (by simp) (λ hg=>(.cons (zh hg rfl) .nil)) (λ hg=>JL (gh hg p51)) [8,65] rfl [6] rfl rfl (by decide) (λ _ _ _ _ st50=>?_)
 refine st50.segB 3 (sg rfl rfl (λ hg=>op_fieldV Spec.fld0 rfl rfl kG94_0 (zh hg rfl))<|sP 1 (r:=by exact sc rfl (zZ rfl (tp rfl) (zb rfl))<|.nil)) [8,71] [(0,0),(6,1)] (λ _ _ st53=>wpList_nil (za ?_))
 refine st53.cs rfl h52 (λ _ h54=>wp_seq (wp_region_list ?_)) (λ _ h55=>wp_skip (za (wp_seq (wp_region_list ?_))))
 ·
  refine st53.segC 3 [74] [(0,0),(6,1)] (λ _ _ st56=>?_)
  refine st56.stF (sb:=0) 0 ((PV.root.box rfl).fld owRunner.f5) rfl rfl rfl kT3 (by simp) (tp rfl) cI rfl rfl iI [] rfl [6] rfl rfl (λ _ st57=>wpList_nil (za (wp_seq (wp_region_list ?_))))
  refine st57.segB 1 (sc rfl (zX (parts:=[]) (ns:=[1,1]) (zs:=Yy) rfl rfl kB45 kC45 (λ w a hl=>by simp) (λ w a hl=>GVal.parts (x:=(⟨0,0⟩:GVal)) ⟨rfl,trivial⟩ ⟨rfl,trivial⟩))<|.nil) [75] [(0,0),(6,1)] (λ _ _ st58=>?_)
  refine st58.store (sb:=6) 1 FldS.id rfl rfl rfl kT45 rfl rfl (tp rfl) rfl [] rfl [0] rfl rfl (λ _ _ st60=>wpList_nil (za ?_))
  refine wp_ret (zd ?_)
  exact st60.rsC (s:=0) 0 rfl kT45 rfl rfl iI (bxr h54)
 refine st53.segC 2 [76,77] [(0,0),(6,1)] (λ _ _ st61=>?_)
 obtain⟨v63,p63,h64⟩:=bs h55
 refine st61.cNA 0 0 (hR.spec_importName p63) [] [6] (λ _ _ _ _ st62=>?_)
 refine st62.segB 1 (sc rfl (zX (parts:=[(0,.const (.int .i64 1)),(1,.tmp 78)]) (ns:=[1,1]) (zs:=Yy) rfl rfl kB45 kC45 (λ w a hl=>by
 intro p hp;simp only[List.mem_cons,List.not_mem_nil,or_false] at hp
 rcases hp with rfl | rfl
 ·
  exact⟨by decide,rfl⟩
 ·
  exact⟨by decide,Rep.len (α:=Int) (OpdR.cells (tp rfl) hl)⟩) (λ w a hl=>GVal.parts (x:=(⟨(1:Int),v63.2⟩:GVal)) (OpdR.cells cI hl) (OpdR.cells (tp rfl) hl)))<|.nil) [79] [(0,0),(6,1)] (λ _ _ st65=>?_)
 refine st65.store (sb:=6) 1 FldS.id rfl rfl rfl kT45 rfl rfl (tp rfl) rfl [] rfl [0] rfl rfl (λ _ _ st67=>wpList_nil (za (wp_ret ?_)))
 exact st67.rsC (s:=0) 0 rfl kT45 rfl rfl iI (bxr h64)
def jR(R:Rec)(x0:Runner)(x1:Str):Option (Runner×Int):=
(xH x0 x1).bind λ v4=>
if(cmpI .geq v4.2 (0:Int))=true then((wm v4.1 (3:Int) x1).bind λ v13=>
some (v13,v4.2))
else((xT x1).bind λ v17=>
(gO (decide (v17≠(⟨[]⟩:Str)) == true) (R.spec_importName v4.1 v17)).bind λ v22=>
if(decide (v17≠(⟨[]⟩:Str))&&cmpI .lss v22.2 (0:Int))=true then(some ((if(decide (v17≠(⟨[]⟩:Str)) == true)=true then v22.1 else v4.1),(-1:Int)))
else((xH (if(decide (v17≠(⟨[]⟩:Str)) == true)=true then v22.1 else v4.1) x1).bind λ v31=>
if(cmpI .geq v31.2 (0:Int))=true then((wm v31.1 (3:Int) x1).bind λ v40=>
some (v40,v31.2))
else((jZ v31.1 x1).bind λ v46=>
if(cmpI .eql v46.2.kind (0:Int))=true then(some ({ v46.1 with fin:=(1:Int) },(-1:Int)))
else(Option.bind (α:=Runner) ((appO 80 v46.1.mods [(⟨x1,v46.2.kind,v46.2.roots,true,false,[]⟩:GMod)]).bind λ v86=>
some ({ v46.1 with mods:=v86 })) λ o65=>
(wm o65 (0:Int) x1).bind λ v140=>
Option.bind (α:=Runner) (if(cmpI .geq v46.2.file (0:Int))=true then((jX v140 v46.2.file).bind λ v149=>
(R.spec_runBody v149.1 (v46.1.mods.length:Int) v149.2).bind λ v153=>
some v153)
else(some v140)) λ o143=>
if(cmpI .neq o143.fin (0:Int))=true then((atI o143.mods (v46.1.mods.length:Int)).bind λ v161=>
(wm ({ o143 with mods:=(o143.mods.set (v46.1.mods.length:Int).toNat ({ v161 with cached:=false })) }) (2:Int) x1).bind λ v167=>
some (v167,(-1:Int)))
else((atI o143.mods (v46.1.mods.length:Int)).bind λ v172=>
(wm ({ o143 with mods:=(o143.mods.set (v46.1.mods.length:Int).toNat ({ v172 with done:=true })) }) (1:Int) x1).bind λ v178=>
Option.bind (α:=Runner) ((xH v178 v17).bind λ v184=>
if(cmpI .geq v184.2 (0:Int))=true then((qV x1).bind λ v191=>
(xE v184.1 v184.2 v191 (⟨(1:Int),(v46.1.mods.length:Int)⟩:GVal)).bind λ v195=>
some v195)
else(some v184.1)) λ o181=>
some (o181,(v46.1.mods.length:Int)))))))
theorem QN{R:Rec}(hR:R.ok){x0:Runner}{x1:Str}{r:Runner×Int}(h:jR R x0 x1=some r):FnS prog 131 oRun ⟨x0⟩ [dt x1] ⟨r.1⟩ (.frz (dt r.2)):=by
 unfold jR at h
 refine fnSB (fn:=f131) 4 6 func131 rfl (oD rfl) rfl (λ M G w0 b0 _ st0=>?_)
 refine st0.sqA [1] [(0,4)] (λ _ _ st1=>wp_seq (wp_seq (wp_region_list ?_)))
 refine st1.segC 2 [1,11,12] [(0,4)] (λ _ _ st2=>?_)
 obtain⟨v4,p4,h5⟩:=bs h
 refine st2.cNA 4 0 (qq p4) [1] [] (λ G3 _ _ _ st6=>?_)
 refine st6.segA 1 [1,5] [(0,4)] (λ _ _ st7=>wpList_nil (za ?_))
 refine st7.sqA [1,5,15] [(0,4)] (λ _ _ st8=>?_)
 refine st8.cs rfl h5 (λ _ h9=>wp_seq (wp_region_list ?_)) (λ _ h10=>wp_skip (za ?_))
 ·
  refine st8.segC 2 [5,16,17] [(0,4)] (λ _ _ st11=>?_)
  obtain⟨v13,p13,h14⟩:=bs h9
  refine st11.cNA 4 0 (FnS.any (Ys p13)) [5] [] (λ G12 _ _ _ st15=>wpList_nil (za ?_))
  refine st15.sqA [4] [(0,4)] (λ _ _ st16=>wp_ret (zd ?_))
  exact st16.rsF (s:=0) 4 rfl rfl rfl iI (bxr h14) zV
 obtain⟨v17,p17,h18⟩:=bsW h10 Yg
 refine st8.sqA [1,6] [(0,4)] (λ _ _ st19=>wp_seq (wp_seq (wp_region_list ?_)))
 refine st19.segB 5 (sc rfl (oM rfl (tp rfl))<|sc rfl (Wa rfl (tp rfl) (zO (by decide)))<|sc rfl (oM rfl (tp rfl))<|sg rfl rfl (λ hg=>oM rfl (zM rfl))<|sg rfl rfl (λ hg=>oM rfl (tp rfl))<|.nil) [1,6,24,25,26] [(0,4)] (λ _ _ st20=>?_)
 obtain⟨v22,p22,h23⟩:=bs h18
 refine st20.cSFgB (sb:=0) (l:=[.tmp 26]) 4 rfl iI rfl rfl rfl kN131 (λ hg=>(st20.st.has 25 _ rfl).1 hg) (by simp) (λ hg=>(.cons (zh hg rfl) .nil)) (λ hg=>hR.spec_importName (gh hg p22)) [1,6,24] rfl [] rfl rfl (by decide) (λ _ _ _ _ st21=>?_)
 have st24:=st21.gn
 refine st24.segB 2 (sP 1 (r:=by exact sc rfl (zZ rfl (tp rfl) (zb rfl))<|.nil)) [1,6,29] [(0,4)] (λ _ _ st25=>wpList_nil (za ?_))
 refine st25.cs rfl h23 (λ _ h26=>?_) (λ _ h27=>wp_skip (za (wp_seq (wp_seq (wp_region_list ?_)))))
 ·
  refine st25.sqA [4] [(0,4)] (λ _ _ st28=>wp_ret (zd ?_))
  exact st28.rsF (s:=0) 4 rfl rfl rfl iI (bxr h26) zV
 refine st25.segC 2 [1,6,30,31] [(0,4)] (λ _ _ st29=>?_)
 obtain⟨v31,p31,h32⟩:=bs h27
 refine st29.cNA 4 0 (qq p31) [1,6] [] (λ G30 _ _ _ st33=>?_)
 refine st33.segA 1 [1,6,7] [(0,4)] (λ _ _ st34=>wpList_nil (za ?_))
 refine st34.sqA [1,6,7,34] [(0,4)] (λ _ _ st35=>?_)
 refine st35.cs rfl h32 (λ _ h36=>wp_seq (wp_region_list ?_)) (λ _ h37=>wp_skip (za (wp_seq (wp_region_list ?_))))
 ·
  refine st35.segC 2 [7,35,36] [(0,4)] (λ _ _ st38=>?_)
  obtain⟨v40,p40,h41⟩:=bs h36
  refine st38.cNA 4 0 (FnS.any (Ys p40)) [7] [] (λ G39 _ _ _ st42=>wpList_nil (za ?_))
  refine st42.sqA [4] [(0,4)] (λ _ _ st43=>wp_ret (zd ?_))
  exact st43.rsF (s:=0) 4 rfl rfl rfl iI (bxr h41) zV
 refine st35.segC 2 [1,6,39,40] [(0,4)] (λ _ _ st44=>?_)
 obtain⟨v46,p46,h47⟩:=bs h37
 refine st44.cNA 4 0 (JL p46) [1,6] [] (λ G45 _ _ _ st48=>?_)
 refine st48.alloc 5 rfl rfl kZ94 WO (by simp) [1,6,41] rfl [0] rfl rfl (λ b50 _ _ _ st50=>?_)
 have st51:=st50.gn
 refine st51.store (sb:=8) 5 FldS.id rfl rfl rfl kT94 rfl rfl (tp rfl) rfl [1,6] rfl [0] rfl rfl (λ _ _ st53=>?_)
 have st54:=st53.frzX 5 (s:=8) rfl rfl [1,6] rfl [0] rfl
 have st55:=st54.gn
 refine wpList_nil (za (wp_seq ?_))
 refine st55.sqA [1,6,8,44] [(0,4)] (λ _ _ st56=>?_)
 refine st56.cs rfl h47 (λ _ h57=>wp_seq (wp_region_list ?_)) (λ _ h58=>wp_skip (za ?_))
 ·
  refine st56.segC 3 [47] [(0,4)] (λ _ _ st59=>?_)
  refine st59.stF (sb:=0) 4 ((PV.root.box rfl).fld owRunner.f5) rfl rfl rfl kT3 (by simp) (tp rfl) cI rfl rfl iI [] rfl [] rfl rfl (λ _ st60=>wpList_nil (za ?_))
  refine st60.sqA [4] [(0,4)] (λ _ _ st61=>wp_ret (zd ?_))
  exact st61.rsF (s:=0) 4 rfl rfl rfl iI (bxr h57) zV
 refine st56.hdR (s:=0) 4 true (λ _=>((PV.root.box rfl).fld owRunner.f2)) rfl rfl iI [] rfl (λ g62 A62 _ hA62 st62=>?_)
 refine st62.sqB (sP 4 (r:=by exact sc rfl (xLe rfl kL52 (tp rfl))<|segC)) [1,6,8,9] [(0,4)] (λ _ _ st63=>?_)
 have st64:=st63.ncf (s:=0) 4 rfl rfl iI [] rfl
 obtain⟨o65,p65,k65⟩:=bs h58
 refine zk (λ a w=>∃ M1 q65_0 q65_1 q65_2 q65_3 q65_4 q65_5,Sx (Frm.chg w0 G) 119 M M1 [q65_0,q65_1,q65_2,q65_3,q65_4,oneB q65_5] [(1,dt x1),(6,dt v17),(8,dptr v46.2),(9,dt (v46.1.mods.length:Int))] [(0,4,dnm oRun q65_4 ⟨o65⟩ (.pointer (some ⟨b0,0,none⟩)) [])] a w) ?_ ?_
 ·
  refine st64.opn (s:=8) rfl (λ b66 o66 c66 st66=>?_)
  refine st66.held (λ w=>CellsAt w b66 o66 c66) zG (λ _ st67=>?_)
  refine st67.tkN (i:=0) (sb:=0) rfl rfl (by decide +kernel) (by decide +kernel) (by decide +kernel) (λ _ _ _ _ h=>h) (st67.pkZ 8) rfl rfl rfl (λ _ st68=>?_)
  refine st68.tkN (i:=1) (sb:=0) rfl rfl (by decide +kernel) (by decide +kernel) (by decide +kernel) (λ _ _ _ _ h=>h) (st68.pkZ 8) rfl rfl rfl (λ _ st69=>?_)
  refine st69.tk (i:=2) rfl rfl (by decide +kernel) (by decide +kernel) (by decide +kernel) (λ _ _ _ h=>h) (st69.pkZ 8) (yNc rfl (st69.st.has 54 _ rfl)) (λ _ st70=>?_)
  refine st70.tk (i:=3) rfl rfl (by decide +kernel) (by decide +kernel) (by decide +kernel) (λ _ _ _ h=>h) (st70.pkZ 8) (yFa rfl Z8 (st70.st.has 55 _ rfl)) (λ _ st71=>?_)
  refine st71.tkM (i:=5) (sb:=1) rfl rfl (by decide +kernel) (by decide +kernel) (by decide +kernel) (λ _ _ _ _ h=>h) (st71.pkZ 8) rfl rfl rfl rfl (λ _ st72=>?_)
  refine st72.tkA (i:=6) (sb:=8) rfl rfl (by decide +kernel) (by decide +kernel) (by decide +kernel) (λ _ _ _ _ h=>h) rfl rfl kF94_0 rfl (λ _ st73=>?_)
  refine st73.tkF (i:=7) (sb:=8) (s2:=59) Spec.fld0 rfl rfl (by decide +kernel) (by decide +kernel) (by decide +kernel) (λ _ _ _ _ h=>h) rfl rfl rfl kT3 rfl (λ _ st74=>?_)
  refine st74.tkA (i:=8) (sb:=8) rfl rfl (by decide +kernel) (by decide +kernel) (by decide +kernel) (λ _ _ _ _ h=>h) rfl rfl kF94_2 rfl (λ _ st75=>?_)
  refine st75.tkF (i:=9) (sb:=8) (s2:=61) Spec.fld2 rfl rfl (by decide +kernel) (by decide +kernel) (by decide +kernel) (λ _ _ _ _ h=>h) rfl rfl rfl kT26 rfl (λ _ st76=>?_)
  obtain⟨v86,p86,h93⟩:=bs p65
  refine aK2 4 10 ?_ ?_
  ·
   refine st76.hdR (s:=0) 4 true (λ _=>((PV.root.box rfl).fld owRunner.f2)) rfl rfl iI [] rfl (λ g94 A94 _ hA94 st94=>?_)
   refine st94.segC 1 [1,6,8,9,53,57,58,60,62] [(0,4)] (λ _ _ st95=>?_)
   refine aHN (st95.pkZ 8) ?_
   refine aK1 10 ?_
   refine st95.bldW (ow:=(owGModR oAtt)) (parts:=[(0,.tmp 58),(1,.tmp 60),(2,.tmp 62),(3,.const (.bool true))]) (ns:=[1,1,1,1,1,1]) (zs:=zpGMod) (x:=(⟨x1,v46.2.kind,v46.2.roots,true,false,[]⟩:GMod)) 1 [] rfl rfl rfl kB83 kC83 (by
 intro p hp;simp only[List.mem_cons,List.not_mem_nil,or_false] at hp
 rcases hp with rfl | rfl | rfl | rfl
 ·
  exact⟨by decide,Rep.len (α:=Str) (OpdR.cells (tp rfl) (λ s y hs=>st95.st.has s y hs))⟩
 ·
  exact⟨by decide,Rep.len (α:=Int) (OpdR.cells (tp rfl) (λ s y hs=>st95.st.has s y hs))⟩
 ·
  exact⟨by decide,Rep.len (α:=List Int) (OpdR.cells (tp rfl) (λ s y hs=>st95.st.has s y hs))⟩
 ·
  exact⟨by decide,rfl⟩) (((owGModR oAtt)).more (owGModR.mk (x:=(⟨x1,v46.2.kind,v46.2.roots,true,false,[]⟩:GMod)) (OpdR.cells (tp rfl) (λ s y hs=>st95.st.has s y hs)) (OpdR.cells (tp rfl) (λ s y hs=>st95.st.has s y hs)) (OpdR.cells (tp rfl) (λ s y hs=>st95.st.has s y hs)) (OpdR.cells cB (λ s y hs=>st95.st.has s y hs)) ⟨rfl,trivial⟩ (Ow.row_z _ _)) (λ b=>(λ hb=>hb.elim))) (by simp) [1,6,8,9,53,57] rfl [0] rfl rfl rfl (λ G96 _ _ st96=>?_)
   have st97:=st96.gs (Gs':=[oneB none,G96,oneB none,oneB none,G45,oneB none]) rfl
   refine aHN (st97.pkS (s:=8) rfl) ?_
   refine aK1 11 ?_
   refine st97.litW (oe:=(owGModR oAtt)) (opds:=[.tmp 63]) (xs:=[(⟨x1,v46.2.kind,v46.2.roots,true,false,[]⟩:GMod)]) 2 [1] rfl rfl kI52 kY52 rfl rfl (by decide) rfl (by decide) (WU (jI (st97.st.has 63 _ rfl)) (λ b hb=>⟨1,by simp,hb⟩)) (λ q hq=>by
 simp only[List.mem_cons,List.not_mem_nil,or_false] at hq
 subst hq
 exact Ow.len _ (jI (st97.st.has 63 _ rfl))) (by simp) [1,6,8,9,53,57] rfl [0] rfl rfl rfl (by decide) (λ G98 _ _ _ st98=>?_)
   have st99:=st98.gs (Gs':=[oneB none,oneB none,G98,oneB none,G45,oneB none]) rfl
   refine aHN (st99.pkS (s:=8) rfl) ?_
   refine aK1 12 ?_
   refine st99.mvG (s:=57) (sb:=0) 4 3 ((PV.root.box rfl).fld owRunner.f2) (.head _) rfl (ym rfl rfl) rfl (by simp) (by simp) (by decide) rfl iI [1,6,8,9,53] rfl [64] rfl rfl rfl rfl (λ _ H101 st101=>?_)
   have st102:=st101.gn
   refine st102.appW 3 2 rfl rfl kE52 rfl rfl (by simp) (by simp) (by decide) iI iI p86 [1,6,8,9,53] rfl [0] rfl rfl rfl (λ _ _ _ _ st100=>?_)
   have st103:=st100.gn
   refine aHN (st103.pkZ 8) ?_
   refine aK1 13 ?_
   refine st103.segC 1 [1,6,8,9,66] [(0,4),(65,3)] (λ _ _ st104=>?_)
   refine aHN (st104.pkZ 8) ?_
   refine aK1 14 ?_
   refine st104.segC 1 [1,6,8,9,67] [(0,4),(65,3)] (λ _ _ st105=>?_)
   refine aHN (st105.pkZ 8) ?_
   refine aK1 15 ?_
   refine st105.stH (sb:=0) (tv:=65) 4 3 rfl rfl rfl kT52 (by simp) (by simp) (by decide) (tp rfl) rfl rfl iI iI [1,6,8,9] rfl [] rfl rfl rfl (λ _ _ st106=>?_)
   have st107:=st106.gn
   refine aHN (st107.pkZ 8) ?_
   refine aK0 ?_
   have st108:=st107.clo (s:=8) rfl
   refine za ?_
   cases h93
   exact fx
  ·
   refine st76.bldW (ow:=(owGModR oAtt)) (parts:=[(0,.tmp 58),(1,.tmp 60),(2,.tmp 62),(3,.const (.bool true))]) (ns:=[1,1,1,1,1,1]) (zs:=zpGMod) (x:=(⟨x1,v46.2.kind,v46.2.roots,true,false,[]⟩:GMod)) 1 [] rfl rfl rfl kB83 kC83 (by
 intro p hp;simp only[List.mem_cons,List.not_mem_nil,or_false] at hp
 rcases hp with rfl | rfl | rfl | rfl
 ·
  exact⟨by decide,Rep.len (α:=Str) (OpdR.cells (tp rfl) (λ s y hs=>st76.st.has s y hs))⟩
 ·
  exact⟨by decide,Rep.len (α:=Int) (OpdR.cells (tp rfl) (λ s y hs=>st76.st.has s y hs))⟩
 ·
  exact⟨by decide,Rep.len (α:=List Int) (OpdR.cells (tp rfl) (λ s y hs=>st76.st.has s y hs))⟩
 ·
  exact⟨by decide,rfl⟩) (((owGModR oAtt)).more (owGModR.mk (x:=(⟨x1,v46.2.kind,v46.2.roots,true,false,[]⟩:GMod)) (OpdR.cells (tp rfl) (λ s y hs=>st76.st.has s y hs)) (OpdR.cells (tp rfl) (λ s y hs=>st76.st.has s y hs)) (OpdR.cells (tp rfl) (λ s y hs=>st76.st.has s y hs)) (OpdR.cells cB (λ s y hs=>st76.st.has s y hs)) ⟨rfl,trivial⟩ (Ow.row_z _ _)) (λ b=>(λ hb=>hb.elim))) (by simp) [1,6,8,9,53,56] rfl [0] rfl rfl rfl (λ G109 _ _ st109=>?_)
   have st110:=st109.gs (Gs':=[oneB none,G109,oneB none,oneB none,G45,oneB none]) rfl
   refine aHN (st110.pkS (s:=8) rfl) ?_
   refine aK2 4 11 ?_ ?_
   ·
    refine st110.hdR (s:=0) 4 true (λ _=>((PV.root.box rfl).fld owRunner.f2)) rfl rfl iI [63] rfl (λ g111 A111 _ hA111 st111=>?_)
    refine st111.segC 1 [1,6,8,9,53,57] [(0,4),(63,1)] (λ _ _ st112=>?_)
    refine aHN (st112.pkZ 8) ?_
    refine aK1 11 ?_
    refine st112.litW (oe:=(owGModR oAtt)) (opds:=[.tmp 63]) (xs:=[(⟨x1,v46.2.kind,v46.2.roots,true,false,[]⟩:GMod)]) 2 [1] rfl rfl kI52 kY52 rfl rfl (by decide) rfl (by decide) (WU (jI (st112.st.has 63 _ rfl)) (λ b hb=>⟨1,by simp,hb⟩)) (λ q hq=>by
 simp only[List.mem_cons,List.not_mem_nil,or_false] at hq
 subst hq
 exact Ow.len _ (jI (st112.st.has 63 _ rfl))) (by simp) [1,6,8,9,53,57] rfl [0] rfl rfl rfl (by decide) (λ G113 _ _ _ st113=>?_)
    have st114:=st113.gs (Gs':=[oneB none,oneB none,G113,oneB none,G45,oneB none]) rfl
    refine aHN (st114.pkS (s:=8) rfl) ?_
    refine aK1 12 ?_
    refine st114.mvG (s:=57) (sb:=0) 4 3 ((PV.root.box rfl).fld owRunner.f2) (.head _) rfl (ym rfl rfl) rfl (by simp) (by simp) (by decide) rfl iI [1,6,8,9,53] rfl [64] rfl rfl rfl rfl (λ _ H116 st116=>?_)
    have st117:=st116.gn
    refine st117.appW 3 2 rfl rfl kE52 rfl rfl (by simp) (by simp) (by decide) iI iI p86 [1,6,8,9,53] rfl [0] rfl rfl rfl (λ _ _ _ _ st115=>?_)
    have st118:=st115.gn
    refine aHN (st118.pkZ 8) ?_
    refine aK1 13 ?_
    refine st118.segC 1 [1,6,8,9,66] [(0,4),(65,3)] (λ _ _ st119=>?_)
    refine aHN (st119.pkZ 8) ?_
    refine aK1 14 ?_
    refine st119.segC 1 [1,6,8,9,67] [(0,4),(65,3)] (λ _ _ st120=>?_)
    refine aHN (st120.pkZ 8) ?_
    refine aK1 15 ?_
    refine st120.stH (sb:=0) (tv:=65) 4 3 rfl rfl rfl kT52 (by simp) (by simp) (by decide) (tp rfl) rfl rfl iI iI [1,6,8,9] rfl [] rfl rfl rfl (λ _ _ st121=>?_)
    have st122:=st121.gn
    refine aHN (st122.pkZ 8) ?_
    refine aK0 ?_
    have st123:=st122.clo (s:=8) rfl
    refine za ?_
    cases h93
    exact fx
   ·
    refine st110.litW (oe:=(owGModR oAtt)) (opds:=[.tmp 63]) (xs:=[(⟨x1,v46.2.kind,v46.2.roots,true,false,[]⟩:GMod)]) 2 [1] rfl rfl kI52 kY52 rfl rfl (by decide) rfl (by decide) (WU (jI (st110.st.has 63 _ rfl)) (λ b hb=>⟨1,by simp,hb⟩)) (λ q hq=>by
 simp only[List.mem_cons,List.not_mem_nil,or_false] at hq
 subst hq
 exact Ow.len _ (jI (st110.st.has 63 _ rfl))) (by simp) [1,6,8,9,53,56] rfl [0] rfl rfl rfl (by decide) (λ G124 _ _ _ st124=>?_)
    have st125:=st124.gs (Gs':=[oneB none,oneB none,G124,oneB none,G45,oneB none]) rfl
    refine aHN (st125.pkS (s:=8) rfl) ?_
    refine aK1 4 ?_
    refine st125.hdR (s:=0) 4 true (λ _=>((PV.root.box rfl).fld owRunner.f2)) rfl rfl iI [64] rfl (λ g126 A126 _ hA126 st126=>?_)
    refine st126.segC 1 [1,6,8,9,53,57] [(0,4),(64,2)] (λ _ _ st127=>?_)
    refine aHN (st127.pkZ 8) ?_
    refine aK1 12 ?_
    refine st127.mvG (s:=57) (sb:=0) 4 3 ((PV.root.box rfl).fld owRunner.f2) (.head _) rfl (ym rfl rfl) rfl (by simp) (by simp) (by decide) rfl iI [1,6,8,9,53] rfl [64] rfl rfl rfl rfl (λ _ H129 st129=>?_)
    have st130:=st129.gn
    refine st130.appW 3 2 rfl rfl kE52 rfl rfl (by simp) (by simp) (by decide) iI iI p86 [1,6,8,9,53] rfl [0] rfl rfl rfl (λ _ _ _ _ st128=>?_)
    have st131:=st128.gn
    refine aHN (st131.pkZ 8) ?_
    refine aK1 13 ?_
    refine st131.segC 1 [1,6,8,9,66] [(0,4),(65,3)] (λ _ _ st132=>?_)
    refine aHN (st132.pkZ 8) ?_
    refine aK1 14 ?_
    refine st132.segC 1 [1,6,8,9,67] [(0,4),(65,3)] (λ _ _ st133=>?_)
    refine aHN (st133.pkZ 8) ?_
    refine aK1 15 ?_
    refine st133.stH (sb:=0) (tv:=65) 4 3 rfl rfl rfl kT52 (by simp) (by simp) (by decide) (tp rfl) rfl rfl iI iI [1,6,8,9] rfl [] rfl rfl rfl (λ _ _ st134=>?_)
    have st135:=st134.gn
    refine aHN (st135.pkZ 8) ?_
    refine aK0 ?_
    have st136:=st135.clo (s:=8) rfl
    refine za ?_
    cases h93
    exact fx
 rintro a65 w65 ⟨M65,q65_0,q65_1,q65_2,q65_3,q65_4,q65_5,st65⟩
 have h137:=k65
 refine wp_seq (wp_region_list ?_)
 refine st65.segC 2 [1,6,8,9,68,69] [(0,4)] (λ _ _ st138=>?_)
 obtain⟨v140,p140,h141⟩:=bs h137
 refine st138.cNA 4 0 (FnS.any (Ys p140)) [1,6,8,9] [] (λ G139 _ _ _ st142=>wpList_nil (za ?_))
 obtain⟨o143,p143,k143⟩:=bs h141
 refine zk (λ a w=>∃ M1 q143_0 q143_1 q143_2 q143_3 q143_4 q143_5,Sx (Frm.chg w0 G) 119 M M1 [q143_0,q143_1,q143_2,q143_3,q143_4,oneB q143_5] [(1,dt x1),(6,dt v17),(9,dt (v46.1.mods.length:Int))] [(0,4,dnm oRun q143_4 ⟨o143⟩ (.pointer (some ⟨b0,0,none⟩)) [])] a w) ?_ ?_
 ·
  refine st142.sqA [1,6,8,9,73] [(0,4)] (λ _ _ st144=>?_)
  refine st144.cs rfl p143 (λ _ h145=>wp_region_list ?_) (λ _ h146=>wp_skip (za ?_))
  ·
   refine st144.segC 5 [1,6,9,74,75,76,78] [(0,4)] (λ _ _ st147=>?_)
   obtain⟨v149,p149,h150⟩:=bs h145
   refine st147.cNA 4 0 (spec_bodyOf_w p149) [1,6,9,74,75] [] (λ G148 _ _ _ st151=>?_)
   obtain⟨v153,p153,h154⟩:=bs h150
   refine st151.cNA 4 0 (FnS.any (hR.spec_runBody p153)) [1,6,9] [] (λ G152 _ _ _ st155=>wpList_nil (za ?_))
   cases h154
   exact fx
  cases h146
  exact fx
 rintro a143 w143 ⟨M143,q143_0,q143_1,q143_2,q143_3,q143_4,q143_5,st143⟩
 have h156:=k143
 refine wp_seq ?_
 refine st143.sqB (sP 3 (r:=by exact sc rfl (xLf (sb:=0) ((PV.root.box rfl).fld owRunner.f5) rfl kT3 (tp rfl) rfl)<|segC)) [1,6,9,85] [(0,4)] (λ _ _ st157=>?_)
 refine st157.cs rfl h156 (λ _ h158=>wp_seq (wp_region_list ?_)) (λ _ h159=>wp_skip (za (wp_seq (wp_region_list ?_))))
 ·
  obtain⟨v161,p161,h162⟩:=bs h158
  refine st157.hdR (s:=0) 4 true (λ _=>((PV.root.box rfl).fld owRunner.f2)) rfl rfl iI [] rfl (λ g160 A160 _ hA160 st160=>?_)
  refine st160.segB 7 (sP 5 (r:=by exact sc rfl (xIa (g:=g160) rfl kS52 (tp rfl) (tp rfl) rfl (λ h=>hA160 h rfl) p161)<|segC)) [1,92] [(0,4)] (λ _ _ st163=>?_)
  refine st163.stF (sb:=0) 4 ((((PV.root.box rfl).fld owRunner.f2).row (.head _) rfl (λ h=>hA160 h rfl) p161).fld owGModR.f3) rfl rfl rfl kT4 (by simp) (tp rfl) cB rfl rfl iI [1] rfl [] rfl rfl (λ _ st164=>wpList_nil (za (wp_seq (wp_region_list ?_))))
  refine st164.segC 2 [93,94] [(0,4)] (λ _ _ st165=>?_)
  obtain⟨v167,p167,h168⟩:=bs h162
  refine st165.cNA 4 0 (FnS.any (Ys p167)) [] [] (λ G166 _ _ _ st169=>wpList_nil (za ?_))
  refine st169.sqA [4] [(0,4)] (λ _ _ st170=>wp_ret (zd ?_))
  exact st170.rsF (s:=0) 4 rfl rfl rfl iI (bxr h168) zV
 obtain⟨v172,p172,h173⟩:=bs h159
 refine st157.hdR (s:=0) 4 true (λ _=>((PV.root.box rfl).fld owRunner.f2)) rfl rfl iI [] rfl (λ g171 A171 _ hA171 st171=>?_)
 refine st171.segB 7 (sP 5 (r:=by exact sc rfl (xIa (g:=g171) rfl kS52 (tp rfl) (tp rfl) rfl (λ h=>hA171 h rfl) p172)<|segC)) [1,6,9,102] [(0,4)] (λ _ _ st174=>?_)
 refine st174.stF (sb:=0) 4 ((((PV.root.box rfl).fld owRunner.f2).row (.head _) rfl (λ h=>hA171 h rfl) p172).fld owGModR.f4) rfl rfl rfl kT4 (by simp) (tp rfl) cB rfl rfl iI [1,6,9] rfl [] rfl rfl (λ _ st175=>wpList_nil (za (wp_seq (wp_region_list ?_))))
 refine st175.segC 2 [1,6,9,103,104] [(0,4)] (λ _ _ st176=>?_)
 obtain⟨v178,p178,h179⟩:=bs h173
 refine st176.cNA 4 0 (FnS.any (Ys p178)) [1,6,9] [] (λ G177 _ _ _ st180=>wpList_nil (za ?_))
 obtain⟨o181,p181,k181⟩:=bs h179
 refine zk (λ a w=>∃ M1 q181_0 q181_1 q181_2 q181_3 q181_4 q181_5,Sx (Frm.chg w0 G) 119 M M1 [q181_0,q181_1,q181_2,q181_3,q181_4,oneB q181_5] [(9,dt (v46.1.mods.length:Int))] [(0,4,dnm oRun q181_4 ⟨o181⟩ (.pointer (some ⟨b0,0,none⟩)) [])] a w) ?_ ?_
 ·
  refine wp_seq (wp_region_list ?_)
  refine st180.segC 2 [1,9,106,107] [(0,4)] (λ _ _ st182=>?_)
  obtain⟨v184,p184,h185⟩:=bs p181
  refine st182.cNA 4 0 (qq p184) [1,9] [] (λ G183 _ _ _ st186=>?_)
  refine st186.segA 1 [1,9,10] [(0,4)] (λ _ _ st187=>wpList_nil (za ?_))
  refine st187.sqA [1,9,10,110] [(0,4)] (λ _ _ st188=>?_)
  refine st188.cs rfl h185 (λ _ h189=>wp_region_list ?_) (λ _ h190=>?_)
  ·
   obtain⟨v191,p191,h192⟩:=bs h189
   refine st188.segB 6 (sP 3 (r:=by exact sc rfl (oK (zaG p191))<|sP 1 (r:=by exact sc rfl (zX (parts:=[(0,.const (.int .i64 1)),(1,.tmp 115)]) (ns:=[1,1]) (zs:=Yy) rfl rfl kB45 kC45 (λ w a hl=>by
 intro p hp;simp only[List.mem_cons,List.not_mem_nil,or_false] at hp
 rcases hp with rfl | rfl
 ·
  exact⟨by decide,rfl⟩
 ·
  exact⟨by decide,Rep.len (α:=Int) (OpdR.cells (tp rfl) hl)⟩) (λ w a hl=>GVal.parts (x:=(⟨(1:Int),(v46.1.mods.length:Int)⟩:GVal)) (OpdR.cells cI hl) (OpdR.cells (tp rfl) hl)))<|.nil))) [9,111,112,114,116] [(0,4)] (λ _ _ st193=>?_)
   obtain⟨v195,p195,h196⟩:=bs h192
   refine st193.cNA 4 0 (FnS.any (qW p195)) [9] [] (λ G194 _ _ _ st197=>wpList_nil (za ?_))
   cases h196
   exact fx
  refine wp_skip (za ?_)
  cases h190
  exact fx
 rintro a181 w181 ⟨M181,q181_0,q181_1,q181_2,q181_3,q181_4,q181_5,st181⟩
 have h198:=k181
 refine st181.sqA [4] [(0,4)] (λ _ _ st199=>wp_ret ?_)
 exact st199.rsF (s:=0) 4 rfl rfl rfl iI (bxr h198) zV
open Go.RowKit Tryz
set_option maxRecDepth 10000
set_option maxHeartbeats 1600000
theorem kN93:fnB prog 93=true:=by kernel_rfl
theorem kB97:bldB prog 97 [1,1]=true:=by kernel_rfl
theorem kC97:jV prog 97 [1,1]=some zpGCmd:=by kernel_rfl
theorem kN94:fnB prog 94=true:=by kernel_rfl
instance iF65_5MbD:FldO prog 65 5 5:=⟨kF65_5⟩
def scc:Nat->Rec
 | 0=>Rec.no
 | n+1=>⟨jR (scc n),qw (scc n),q5 (scc n),qZ (scc n),qY (scc n),ZZ (scc n),wI (scc n),wX (scc n),yl (scc n)⟩
theorem Y4:∀ n,(scc n).ok
 | 0=>Rec.no_ok
 | n+1=>⟨(λ h=>QN (Y4 n) h),(λ h=>zaP (Y4 n) h),(λ h=>zbb (Y4 n) h),(λ h=>zba (Y4 n) h),(λ h=>za9 (Y4 n) h),(λ h=>za8 (Y4 n) h),(λ h=>WX (Y4 n) h),(λ h=>Ju (Y4 n) h),(λ h=>QM (Y4 n) h)⟩
def q6(R:Rec)(x0:Runner)(x1:GCmd):Option (Runner×Int):=
Option.bind (α:=Runner⊕(Runner×Int)) (if(cmpI .eql x1.kind (0:Int))=true then((R.spec_importName ({ x0 with fin:=(0:Int) }) x1.name).bind λ v11=>
some (.inl v11.1))
else none) (Sum.elim (λ b4=>
some (b4,b4.fin)) some)
theorem zbc{R:Rec}(hR:R.ok){x0:Runner}{x1:GCmd}{r:Runner×Int}(h:q6 R x0 x1=some r):FnS prog 94 oRun ⟨x0⟩ [dt x1] ⟨r.1⟩ (.frz (dt r.2)):=by
 unfold q6 at h
 refine fnSB (fn:=f94) 0 1 func94 rfl (oD rfl) rfl (λ M G w0 b0 _ st0=>?_)
 refine st0.sqA [3] [(0,0)] (λ _ _ st1=>wp_seq (wp_region_list ?_))
 refine st1.segC 3 [3,8] [(0,0)] (λ _ _ st2=>?_)
 refine st2.stF (sb:=0) 0 ((PV.root.box rfl).fld owRunner.f5) rfl rfl rfl kT3 (by simp) (tp rfl) cI rfl rfl iI [3] rfl [] rfl rfl (λ _ st3=>wpList_nil (za ?_))
 obtain⟨o4,p4,k4⟩:=bs h
 refine zk (λ a w=>∃ b4,o4=.inl b4/\(∃ M1 q4_0,Sx (Frm.chg w0 G) 42 M M1 [q4_0] [] [(0,0,dnm oRun q4_0 ⟨b4⟩ (.pointer (some ⟨b0,0,none⟩)) [])] a w)) ?_ ?_
 ·
  refine st3.sqA [3,10] [(0,0)] (λ _ _ st5=>wp_block ?_)
  refine st5.sqA [3,10,11] [(0,0)] (λ _ _ st6=>?_)
  refine st6.cs rfl p4 (λ _ h7=>wp_region_list ?_) (λ _ h8=>?_)
  ·
   refine st6.segC 3 [13,15] [(0,0)] (λ _ _ st9=>?_)
   obtain⟨v11,p11,h12⟩:=bs h7
   refine st9.cNA 0 0 (hR.spec_importName p11) [] [] (λ _ _ _ _ st10=>wpList_nil (ze (za ?_)))
   exact fl h12
  cases h8
 rintro a4 w4 ⟨b4,rfl,⟨M4,q4_0,st4⟩⟩
 have h13:=jn k4
 refine st4.sqB (sP 3 (r:=by exact sc rfl (xLf (sb:=0) ((PV.root.box rfl).fld owRunner.f5) rfl kT3 (tp rfl) rfl)<|segC)) [4] [(0,0)] (λ _ _ st14=>wp_ret ?_)
 exact st14.rsF (s:=0) 0 rfl rfl rfl iI (bxr h13) zV
def Zu(R:Rec)(x2:List Str)(s11:Runner×Int):Option ((Runner×Int)⊕Runner):=
if(cmpI .lss s11.2 (x2.length:Int))=true then((atI x2 s11.2).bind λ v17=>
(q6 R s11.1 (⟨(0:Int),v17⟩:GCmd)).bind λ v21=>
(i64 (s11.2+(1:Int))).bind λ v23=>
some (.inl (v21.1,v23)))
else(some (.inr s11.1))
def Z9(R:Rec)(x0:Tree)(x1:List Int)(x2:List Str):Option Runner:=
(Zh x0 x1 (120:Int)).bind λ v4=>
Option.bind (α:=Runner) (zS (λ s11=>Zu R x2 s11) (v4,(0:Int))) λ o8=>
some o8
theorem zbd{R:Rec}(hR:R.ok){x0:Tree}{x1:List Int}{x2:List Str}{r:Runner}(h:Z9 R x0 x1 x2=some r):FnN prog 53 [dt x0,dt x1,dt x2] (.ow oRun ⟨r⟩):=by
 unfold Z9 at h
 refine fnN (fn:=f53) 1 func53 rfl (oD rfl) rfl (λ M w0 _ st0=>?_)
 refine st0.sq2 (sP 1 (r:=by exact sc rfl (oA rfl XR)<|.nil)) [1,2,3] (λ _ _ st1=>wp_seq (wp_region_list ?_))
 refine st1.segA 2 [2,9,10] [] (λ _ _ st2=>?_)
 obtain⟨v4,p4,h5⟩:=bs h
 refine st2.cN (l:=[.tmp 9,.tmp 10,.const (.int .i64 120)]) 0 rfl rfl kN93 (.cons (tp rfl) (.cons (tp rfl) (.cons cI .nil))) (zaf p4) (by simp) [2] rfl [] rfl rfl (λ _ _ _ _ st3=>?_)
 refine st3.nmB (s:=11) 0 rfl rfl iI [] rfl (λ b6 st6=>?_)
 refine st6.segA 1 [2] [(7,0)] (λ _ _ st7=>wpList_nil (za ?_))
 obtain⟨o8,p8,k8⟩:=bs h5
 refine zk (λ a w=>∃ M1 q8_0,Sx (Frm.of w0) 26 M M1 [q8_0] [] [(7,0,dow oRun q8_0 ⟨o8⟩)] a w) ?_ ?_
 ·
  refine st7.sqA [2,8] [(7,0)] (λ _ _ st9=>wp_block ?_)
  have st10:=st9.unm (s:=7) 0 rfl rfl iI [] rfl
  refine zK p8 (λ s11 a w=>∃ M1 q11_0,Sx (Frm.of w0) 26 M M1 [q11_0] [(2,dt x2),(8,dt s11.2)] [(7,0,dow oRun q11_0 ⟨s11.1⟩)] a w) fx ?_
  rintro s11 z11 a11 w11 ⟨M11,q11_0,st11⟩ hs11 hx11
  have h12:Zu R x2 s11=some z11:=hs11
  unfold Zu at h12
  refine wp_seq ?_
  refine st11.sqA [2,8,15] [(7,0)] (λ _ _ st13=>?_)
  refine st13.cs rfl h12 (λ _ h14=>wp_skip (za (wp_seq (wp_block (wp_region_list ?_))))) (λ _ h15=>?_)
  ·
   obtain⟨v17,p17,h18⟩:=bs h14
   refine st13.nmB (s:=7) 0 rfl rfl iI [] rfl (λ b16 st16=>?_)
   refine st16.segB 6 (sc rfl (oM rfl (tp rfl))<|sc rfl (oM rfl (tp rfl))<|sc rfl (oM rfl (tp rfl))<|sc rfl (xIdx rfl kS29 (tp rfl) (tp rfl) p17)<|sc rfl (zn rfl kT9 (tp rfl))<|sc rfl (zX (parts:=[(0,.const (.int .i64 0)),(1,.tmp 22)]) (ns:=[1,1]) (zs:=zpGCmd) rfl rfl kB97 kC97 (λ w a hl=>by
 intro p hp;simp only[List.mem_cons,List.not_mem_nil,or_false] at hp
 rcases hp with rfl | rfl
 ·
  exact⟨by decide,rfl⟩
 ·
  exact⟨by decide,Rep.len (α:=Str) (OpdR.cells (tp rfl) hl)⟩) (λ w a hl=>GCmd.parts (x:=(⟨(0:Int),v17⟩:GCmd)) (OpdR.cells cI hl) (OpdR.cells (tp rfl) hl)))<|.nil) [2,8,23] [(7,0),(18,0)] (λ _ _ st19=>?_)
   obtain⟨v21,p21,h22⟩:=bs h18
   refine st19.cSF (l:=[.tmp 23]) 0 (st19.bkN (s:=7) rfl iI) rfl rfl kN94 ((st19.st.has 18 _ rfl).1.trans (st19.st.has 7 _ rfl).1.symm) (by simp) (.cons (tp rfl) .nil) (zbc hR p21) [2,8] rfl [] rfl rfl (by decide) (λ _ _ _ _ st20=>wpList_nil (ze (za ?_)))
   obtain⟨v23,p23,h24⟩:=bs h22
   refine st20.rgA [2,8] [(7,0)] (λ _ _ st25=>?_)
   have st26:=st25.unm (s:=7) 0 rfl rfl iI [] rfl
   refine za ?_
   exact fl h24
  refine wp_exit (zi (zi (zC ?_)))
  refine za ?_
  have h27:=lo h15 hx11
  cases h27
  exact fx
 rintro a8 w8 ⟨M8,q8_0,st8⟩
 have h28:=k8
 refine st8.nmB (s:=7) 0 rfl rfl iI [] rfl (λ b29 st29=>?_)
 refine st29.sqA [] [(6,0)] (λ _ _ st30=>wp_ret ?_)
 have st31:=st30.unm (s:=6) 0 rfl rfl iI [] rfl
 exact st31.rnO 0 rfl rfl iI (bx1 h28)
open Go.RowKit Tryz
set_option maxRecDepth 10000
set_option maxHeartbeats 1600000
theorem kN53:fnB prog 53=true:=by kernel_rfl
theorem kN70:fnB prog 70=true:=by kernel_rfl
def xj(_R:Rec)(v12:Runner)(s17:Int):Option (Int⊕(Unit⊕Str)):=
if(cmpI .lss s17 (v12.log.length:Int))=true then((atI v12.log s17).bind λ v22=>
if(cmpI .eql v22.kind (2:Int))=true then((atI v12.log s17).bind λ v27=>
some (.inr (.inr v27.name)))
else((i64 (s17+(1:Int))).bind λ v32=>
some (.inl v32)))
else(some (.inr (.inl ())))
def wl(R:Rec)(x0:Tree)(x1:List Int)(x2:Str):Option Str:=
(jj x0).bind λ v2=>
(gO ((!v2) == false) (jk x1)).bind λ v3=>
(gO (((!v2)||(!v3)) == false) (yU x2)).bind λ v4=>
if(((!v2)||(!v3))||(!v4))=true then(some (⟨[]⟩:Str))
else((Z9 R x0 x1 ([x2]:List Str)).bind λ v12=>
Option.bind (α:=Unit⊕Str) (zS (λ s17=>xj R v12 s17) (0:Int)) (Sum.elim (λ _b15=>
some (⟨[]⟩:Str)) some))
theorem YC{R:Rec}(hR:R.ok){x0:Tree}{x1:List Int}{x2:Str}{r:Str}(h:wl R x0 x1 x2=some r):Fn prog 34 [dt x0,dt x1,dt x2] (dt r):=by
 unfold wl at h
 refine fnx (fn:=f34) 0 func34 rfl (oD rfl) rfl (λ M w0 _ st0=>?_)
 refine st0.sq1 [1,2,3] (λ _ _ st1=>wp_seq ?_)
 obtain⟨v2,p2,v3,p3,v4,p4,h7⟩:=bsC h
 refine st1.sq2 (sP 1 (r:=by exact sc rfl (oK (XT p2))<|sP 3 (r:=by exact sg rfl rfl (λ hg=>oK (XU (gh hg p3)))<|sP 1 (r:=by exact sc rfl (yW rfl (tp rfl) (zb rfl))<|sP 2 (r:=by exact sg rfl rfl (λ hg=>oK (Zf (gh hg p4)))<|sP 1 (r:=by exact sc rfl (yW rfl (tp rfl) (zb rfl))<|.nil)))))) [1,2,3,21] (λ _ _ st8=>?_)
 refine st8.cs rfl h7 (λ _ h9=>?_) (λ _ h10=>wp_skip (za ?_))
 ·
  refine st8.sq1 [6] (λ _ _ st11=>wp_ret (zd ?_))
  exact st11.ret rfl rfl h9
 obtain⟨v12,p12,h13⟩:=bs h10
 refine st8.sq2 (sP 4 (r:=by exact sc rfl (OpRel.bx (zP (l:=[.tmp 22,.tmp 23,.tmp 25]) rfl kN53 (.cons (tp rfl) (.cons (tp rfl) (.cons (tp rfl) .nil))) (FnN.fn<|zbd hR p12)))<|segC)) [7] (λ _ _ st14=>?_)
 obtain⟨o15,p15,k15⟩:=bs h13
 refine zk (λ a w=>∃ b15,o15=.inl b15/\Sx (Frm.of w0) 53 M M [] [] [] a w) ?_ ?_
 ·
  refine st14.sq1 [7,8] (λ _ _ st16=>wp_block ?_)
  refine zK p15 (λ s17 a w=>Sx (Frm.of w0) 53 M M [] [(7,dptr v12),(8,dt s17)] [] a w) (st16.sel0 [7,8] rfl) ?_
  rintro s17 z17 a17 w17 st17 hs17 hx17
  have h18:xj R v12 s17=some z17:=hs17
  unfold xj at h18
  refine wp_seq ?_
  refine st17.sq3 [7,8,33] (λ _ _ st19=>?_)
  refine st19.cs rfl h18 (λ _ h20=>wp_skip (za (wp_seq (wp_block ?_)))) (λ _ h21=>wp_exit (zi (zi (zC ?_))))
  ·
   obtain⟨v22,p22,h23⟩:=bs h20
   refine st19.sq3 [7,8,44] (λ _ _ st24=>?_)
   refine st24.cs rfl h23 (λ _ h25=>?_) (λ _ h26=>wp_skip (ze (za ?_)))
   ·
    obtain⟨v27,p27,h28⟩:=bs h25
    refine st24.sq3 [6] (λ _ _ st29=>wp_ret (zm (zd (zd (zm (zd ?_))))))
    have h30:=lo h28 hx17
    have h31:=jo h30 k15
    exact st29.ret rfl rfl h31
   obtain⟨v32,p32,h33⟩:=bs h26
   refine st24.rg1 [7,8] (λ _ _ st34=>za ?_)
   exact⟨_,(Option.some.inj h33).symm,st34.sel0 [7,8] rfl⟩
  refine za ?_
  have h35:=lo h21 hx17
  exact⟨_,(Option.some.inj h35).symm,st19.sel0 [] rfl⟩
 rintro a15 w15 ⟨b15,rfl,st15⟩
 have h36:=jn k15
 refine st15.sq1 [6] (λ _ _ st37=>wp_ret ?_)
 exact st37.ret rfl rfl h36
def yD(_R:Rec)(v14:Runner)(s19:(List Str)×(List Str)×Int):Option (((List Str)×(List Str)×Int)⊕(List Str)):=
if(cmpI .lss s19.2.2 (v14.log.length:Int))=true then(Option.bind (α:=(List Str)×(List Str)) ((atI v14.log s19.2.2).bind λ v25=>
if(cmpI .eql v25.kind (0:Int))=true then((appO 16 s19.2.1 ([v25.name]:List Str)).bind λ v39=>
some (s19.1,v39))
else(Option.bind (α:=Bool) (if(cmpI .eql v25.kind (1:Int))=true then(some (cmpI .eql v25.kind (1:Int)))
else(some (cmpI .eql v25.kind (2:Int)))) λ o42=>
if o42=true then((jW s19.2.1 v25.name).bind λ v50=>
(XK s19.2.1 v50).bind λ v60=>
(appO 16 [] v60).bind λ v64=>
(i64 (v50+(1:Int))).bind λ v66=>
(sliLO s19.2.1 v66).bind λ v68=>
(appO 16 v64 v68).bind λ v72=>
some (s19.1,v72))
else(if(cmpI .eql v25.kind (3:Int))=true then((qa s19.2.1 v25.name).bind λ v92=>
(gO (v92 == true) (qa s19.1 v25.name)).bind λ v93=>
if(v92&&(!v93))=true then((appO 16 s19.1 ([v25.name]:List Str)).bind λ v102=>
some (v102,s19.2.1))
else(some (s19.1,s19.2.1)))
else(some (s19.1,s19.2.1))))) λ o24=>
(i64 (s19.2.2+(1:Int))).bind λ v106=>
some (.inl (o24.1,o24.2,v106)))
else(some (.inr s19.1))
def ww(R:Rec)(x0:Tree)(x1:List Int)(x2:Str):Option (List Str):=
(jj x0).bind λ v2=>
(gO ((!v2) == false) (jk x1)).bind λ v3=>
(gO (((!v2)||(!v3)) == false) (yU x2)).bind λ v4=>
if(((!v2)||(!v3))||(!v4))=true then(some [])
else((Z9 R x0 x1 ([x2]:List Str)).bind λ v14=>
Option.bind (α:=(List Str)) (zS (λ s19=>yD R v14 s19) ([],[],(0:Int))) λ o17=>
some o17)
theorem Y5{R:Rec}(hR:R.ok){x0:Tree}{x1:List Int}{x2:Str}{r:List Str}(h:ww R x0 x1 x2=some r):FnOwn prog 39 [dt x0,dt x1,dt x2] 9 r:=by
 unfold ww at h
 refine fnxO (fn:=f39) 3 func39 rfl (oD rfl) rfl (λ M w0 _ st0=>?_)
 refine st0.sq2 (sP 1 (r:=by exact sc rfl (oA rfl (YQ (α:=Str) (e:=9)))<|.nil)) [1,2,3] (λ _ _ st1=>wp_seq ?_)
 obtain⟨v2,p2,v3,p3,v4,p4,h7⟩:=bsC h
 refine st1.sq2 (sP 1 (r:=by exact sc rfl (oK (XT p2))<|sP 3 (r:=by exact sg rfl rfl (λ hg=>oK (XU (gh hg p3)))<|sP 1 (r:=by exact sc rfl (yW rfl (tp rfl) (zb rfl))<|sP 2 (r:=by exact sg rfl rfl (λ hg=>oK (Zf (gh hg p4)))<|sP 1 (r:=by exact sc rfl (yW rfl (tp rfl) (zb rfl))<|.nil)))))) [1,2,3,25] (λ _ _ st8=>?_)
 refine st8.cs rfl h7 (λ _ h9=>?_) (λ _ h10=>wp_skip (za ?_))
 ·
  refine st8.sqB (sc rfl (oA rfl (YQ (α:=Str) (e:=9)))<|.nil) [] [(6,0)] (λ _ _ st11=>wp_ret (zd ?_))
  exact st11.ret_own 0 rfl rfl iE h9
 refine st8.sqB (sc rfl (wB (α:=Str) (e:=9) rfl kS29)<|segC) [1,2,3] [(7,0)] (λ _ _ st12=>?_)
 refine st12.sqB (sc rfl (wB (α:=Str) (e:=9) rfl kS29)<|segC) [1,2,3] [(7,0),(8,1)] (λ _ _ st13=>?_)
 obtain⟨v14,p14,h15⟩:=bs h10
 refine st13.sqB (sP 4 (r:=by exact sc rfl (OpRel.bx (zP (l:=[.tmp 28,.tmp 29,.tmp 31]) rfl kN53 (.cons (tp rfl) (.cons (tp rfl) (.cons (tp rfl) .nil))) (FnN.fn<|zbd hR p14)))<|segC)) [9] [(7,0),(8,1)] (λ _ _ st16=>?_)
 obtain⟨o17,p17,k17⟩:=bs h15
 refine zk (λ a w=>∃ M1 q17_0 q17_1 q17_2,Sx (Frm.of w0) 94 M M1 [oneB q17_0,oneB q17_1,oneB q17_2] [] [(7,0,dtip q17_0 9 o17)] a w) ?_ ?_
 ·
  refine st16.sqA [9,10] [(7,0),(8,1)] (λ _ _ st18=>wp_block ?_)
  refine zK p17 (λ s19 a w=>∃ M1 q19_0 q19_1 q19_2,Sx (Frm.of w0) 94 M M1 [oneB q19_0,oneB q19_1,oneB q19_2] [(9,dptr v14),(10,dt s19.2.2)] [(7,0,dtip q19_0 9 s19.1),(8,1,dtip q19_1 9 s19.2.1)] a w) fx ?_
  rintro s19 z19 a19 w19 ⟨M19,q19_0,q19_1,q19_2,st19⟩ hs19 hx19
  have h20:yD R v14 s19=some z19:=hs19
  unfold yD at h20
  refine wp_seq ?_
  refine st19.sqC [9,10,39] [(7,0),(8,1)] (λ _ _ st21=>?_)
  refine st21.cs rfl h20 (λ _ h22=>wp_skip (za ?_)) (λ _ h23=>wp_exit (zi (zi (zC ?_))))
  ·
   obtain⟨o24,p24,k24⟩:=bs h22
   refine zk (λ a w=>∃ M1 q24_0 q24_1 q24_2,Sx (Frm.of w0) 94 M M1 [oneB q24_0,oneB q24_1,oneB q24_2] [(9,dptr v14),(10,dt s19.2.2)] [(7,0,dtip q24_0 9 o24.1),(8,1,dtip q24_1 9 o24.2)] a w) ?_ ?_
   ·
    refine wp_block (wp_seq (wp_region_list ?_))
    obtain⟨v25,p25,h26⟩:=bs p24
    refine st21.segC 7 [9,10,48] [(7,0),(8,1)] (λ _ _ st27=>?_)
    refine st27.alloc 2 rfl rfl kZ67 zrGEvent (by simp) [9,10,48] rfl [7,8] rfl rfl (λ b29 _ _ _ st29=>?_)
    refine st29.store (sb:=11) 2 FldS.id rfl rfl rfl kT67 rfl rfl (tp rfl) rfl [9,10] rfl [7,8] rfl rfl (λ _ _ st31=>wpList_nil (za ?_))
    refine st31.sqC [9,10,50] [(7,0),(8,1),(11,2)] (λ _ _ st32=>wp_block ?_)
    refine st32.sqA [9,10,50,51] [(7,0),(8,1),(11,2)] (λ _ _ st33=>?_)
    refine st33.cs rfl h26 (λ _ h34=>wp_region_list ?_) (λ _ h35=>?_)
    ·
     refine st33.segC 4 [9,10,56] [(7,0),(8,1),(53,1)] (λ _ _ st36=>?_)
     obtain⟨v39,p39,h40⟩:=bs h34
     refine st36.app 1 rfl rfl kE29 rfl rfl rfl xW p39 [9,10] rfl [7] rfl rfl (λ g38 _ _ _ st38=>?_)
     refine st38.segA 1 [9,10] [(7,0),(8,1)] (λ _ _ st41=>wpList_nil (ze (ze (za ?_))))
     cases h40
     exact fx
    obtain⟨o42,p42,k42⟩:=bs h35
    refine zk (λ a w=>∃ M1 q42_0 q42_1 q42_2,Sx (Frm.of w0) 94 M M1 [oneB q42_0,oneB q42_1,oneB q42_2] [(9,dptr v14),(10,dt s19.2.2),(50,dt v25.kind),(58,dt o42)] [(7,0,dtip q42_0 9 s19.1),(8,1,dtip q42_1 9 s19.2.1),(11,2,dbox q42_2 0 v25)] a w) ?_ ?_
    ·
     refine st33.sqA [9,10,50,58] [(7,0),(8,1),(11,2)] (λ _ _ st43=>?_)
     refine st43.cs rfl p42 (λ _ h44=>wp_skip (za ?_)) (λ _ h45=>?_)
     ·
      cases h44
      exact fx
     refine st43.rgA [9,10,50,58] [(7,0),(8,1),(11,2)] (λ _ _ st46=>za ?_)
     cases h45
     exact fx
    rintro a42 w42 ⟨M42,q42_0,q42_1,q42_2,st42⟩
    have h47:=k42
    refine st42.cs rfl h47 (λ _ h48=>?_) (λ _ h49=>?_)
    ·
     obtain⟨v50,p50,h51⟩:=bs h48
     refine st42.sqB (sP 3 (r:=by exact sc rfl (xc (l:=[.tmp 61,.tmp 63]) st42.ob.sub rfl kN69 (.cons (borrow st42.ob 1 rfl (tp rfl)) (.cons (wR st42.ob.sub (tp rfl)) .nil)) (JE p50) zV)<|segC)) [9,10,12] [(7,0),(8,1)] (λ _ _ st52=>?_)
     have st53:=st52.frz 1 (s:=8) rfl rfl [9,10,12] rfl [7] rfl
     refine st53.held (λ _=>True) zG (λ _ st54=>?_)
     refine st54.tkM (i:=1) (sb:=8) rfl rfl (by decide +kernel) (by decide +kernel) (by decide +kernel) (λ _ _ _ _ h=>h) trivial rfl rfl rfl rfl (λ _ st55=>?_)
     refine st55.tkM (i:=2) (sb:=12) rfl rfl (by decide +kernel) (by decide +kernel) (by decide +kernel) (λ _ _ _ _ h=>h) trivial rfl rfl rfl rfl (λ _ st56=>?_)
     refine st56.tkM (i:=5) (sb:=8) rfl rfl (by decide +kernel) (by decide +kernel) (by decide +kernel) (λ _ _ _ _ h=>h) trivial rfl rfl rfl rfl (λ _ st57=>?_)
     refine st57.tkM (i:=6) (sb:=12) rfl rfl (by decide +kernel) (by decide +kernel) (by decide +kernel) (λ _ _ _ _ h=>h) trivial rfl rfl rfl rfl (λ _ st58=>?_)
     obtain⟨v60,p60,v64,p64,v66,p66,v68,p68,h78⟩:=bsD h51
     obtain⟨v72,p72,h79⟩:=bs h78
     refine st58.tkSlH (i:=3) rfl rfl (by decide +kernel) (by decide +kernel) (by decide +kernel) (λ _ _ _ _ h=>h) trivial rfl kS29 (tp rfl) (tp rfl) p60 (next:=λ a80 st80=>?_)
     refine st80.tkAr (i:=7) rfl rfl (by decide +kernel) (by decide +kernel) (by decide +kernel) (λ _ _ _ _ h=>h) trivial rfl (tp rfl) cI p66 (next:=λ a81 st81=>?_)
     refine st81.tkSlL (i:=8) rfl rfl (by decide +kernel) (by decide +kernel) (by decide +kernel) (λ _ _ _ _ h=>h) trivial rfl kS29 (tp rfl) (tp rfl) p68 (next:=λ a82 st82=>aK1 0 ?_)
     refine st82.segB 1 (sc rfl (wB (α:=Str) (e:=9) rfl kS29)<|.nil) [8,9,10,68,73] [(7,0),(65,1)] (λ _ _ st83=>aHN trivial ?_)
     refine aK1 4 ?_
     refine st83.app 1 rfl rfl kE29 rfl rfl rfl xW p64 [8,9,10,73] rfl [7] rfl rfl (λ g85 _ _ _ st85=>aHN trivial ?_)
     refine aK1 9 ?_
     refine st85.app 1 rfl rfl kE29 rfl rfl rfl xW p72 [8,9,10] rfl [7] rfl rfl (λ g87 _ _ _ st87=>aHN trivial ?_)
     refine aK1 10 ?_
     refine st87.segA 1 [9,10] [(7,0),(8,1)] (λ _ _ st88=>aHN trivial ?_)
     refine aK0 (ze (ze (za ?_)))
     cases h79
     exact fx
    refine st42.sqA [9,10,75] [(7,0),(8,1),(11,2)] (λ _ _ st89=>?_)
    refine st89.cs rfl h49 (λ _ h90=>?_) (λ _ h91=>wp_skip (ze (ze (za ?_))))
    ·
     obtain⟨v92,p92,v93,p93,h95⟩:=bsB h90
     refine st89.sqB (sP 3 (r:=by exact sc rfl (xc (l:=[.tmp 77,.tmp 79]) st89.ob.sub rfl kN70 (.cons (borrow st89.ob 1 rfl (tp rfl)) (.cons (wR st89.ob.sub (tp rfl)) .nil)) (WR p92) ZJ)<|sP 4 (r:=by exact sg rfl rfl (λ hg=>xc (l:=[.tmp 82,.tmp 84]) st89.ob.sub rfl kN70 (.cons (borrow st89.ob 0 rfl (zh hg rfl)) (.cons (wR st89.ob.sub (zh hg rfl)) .nil)) (WR (gh hg p93)) ZJ)<|sP 1 (r:=by exact sc rfl (zZ rfl (tp rfl) (zb rfl))<|.nil)))) [9,10,87] [(7,0),(8,1),(11,2)] (λ _ _ st96=>?_)
     refine st96.cs rfl h95 (λ _ h97=>wp_region_list ?_) (λ _ h98=>wp_skip (ze (ze (za ?_))))
     ·
      refine st96.segC 4 [9,10,91] [(7,0),(8,1),(88,0)] (λ _ _ st99=>?_)
      obtain⟨v102,p102,h103⟩:=bs h97
      refine st99.app 0 rfl rfl kE29 rfl rfl rfl xW p102 [9,10] rfl [8] rfl rfl (λ g101 _ _ _ st101=>?_)
      refine st101.segA 1 [9,10] [(7,0),(8,1)] (λ _ _ st104=>wpList_nil (ze (ze (za ?_))))
      cases h103
      exact fx
     cases h98
     exact fx
    cases h91
    exact fx
   rintro a24 w24 ⟨M24,q24_0,q24_1,q24_2,st24⟩
   have h105:=k24
   obtain⟨v106,p106,h107⟩:=bs h105
   refine st24.rgA [9,10] [(7,0),(8,1)] (λ _ _ st108=>za ?_)
   exact fl h107
  refine za ?_
  have h109:=lo h23 hx19
  cases h109
  exact fx
 rintro a17 w17 ⟨M17,q17_0,q17_1,q17_2,st17⟩
 have h110:=k17
 refine st17.sqA [] [(6,0)] (λ _ _ st111=>wp_ret ?_)
 exact st111.ret_own 0 rfl rfl iI h110
end Go.Proofs.YtmenakmafojpaaaGreatDoor
