import Derived.Test.YtpmkkijamfgaeaaGreatDoorRB
import Derived.Test.YtpmkkijamfgaeaaGreatDoorRO
import Derived.Test.YtpmkkijamfgaeaaGreatDoorRJ
namespace Go.Proofs.YtpmkkijamfgaeaaGreatDoor
open Go.RowKit Tryz
attribute [local irreducible] OpRel OpdR
set_option maxRecDepth 10000
set_option maxHeartbeats 1600000
theorem kF158_6:fldB prog 158 6 6=true:=by kernel_rfl
theorem kF158_5:fldB prog 158 5 5=true:=by kernel_rfl
theorem kN127:fnB prog 127=true:=by kernel_rfl
theorem kN175:fnB prog 175=true:=by kernel_rfl
theorem kF158_4:fldB prog 158 4 4=true:=by kernel_rfl
theorem kN235:fnB prog 235=true:=by kernel_rfl
theorem kN249:fnB prog 249=true:=by kernel_rfl
theorem kN194:fnB prog 194=true:=by kernel_rfl
theorem kN172:fnB prog 172=true:=by kernel_rfl
theorem kI35:sliB prog 35 98 6=true:=by kernel_rfl
instance iF158_2MbC:FldO prog 158 2 2:=⟨Zh⟩
instance iF158_4MbC:FldO prog 158 4 4:=⟨kF158_4⟩
instance iF158_5MbC:FldO prog 158 5 5:=⟨kF158_5⟩
instance iF158_6MbC:FldO prog 158 6 6:=⟨kF158_6⟩
instance iF189_1MbC:FldO prog 189 1 1:=⟨zat⟩
instance iF98_0MbC:FldO prog 98 0 0:=⟨QE⟩
instance iF98_1MbC:FldO prog 98 1 1:=⟨kF98_1⟩
instance iF98_3MbC:FldO prog 98 3 3:=⟨kF98_3⟩
instance iF98_4MbC:FldO prog 98 4 4:=⟨kF98_4⟩
instance iF98_5MbC:FldO prog 98 5 5:=⟨Wi⟩
def Z9(R:Rec)(x1:Int)(x2:List Stmt)(s2:Runner×Int):Option ((Runner×Int)⊕Runner):=
if(cmpI .lss s2.2 (x2.length:Int))=true then(if(cmpI .eql s2.1.left (0:Int))=true then(some (.inr ({ s2.1 with fin:=(6:Int) })))
else((i64 (s2.1.left - (1:Int))).bind λ v13=>
(atI x2 s2.2).bind λ v17=>
(R.spec_runStmt ({ s2.1 with left:=v13 }) x1 v17).bind λ v21=>
if(cmpI .neq v21.fin (0:Int))=true then(some (.inr v21))
else((i64 (s2.2+(1:Int))).bind λ v27=>
some (.inl (v21,v27)))))
else(some (.inr s2.1))
def XH(R:Rec)(x0:Runner)(x1:Int)(x2:List Stmt):Option Runner:=
zL (λ s2=>Z9 R x1 x2 s2) (x0,(0:Int))
theorem zb5{R:Rec}(hR:R.ok){x0:Runner}{x1:Int}{x2:List Stmt}{r:Runner}(h:XH R x0 x1 x2=some r):FnS prog 173 oRun ⟨x0⟩ [dt x1,dt x2] ⟨r⟩ .gone:=by
 unfold XH at h
 refine fnSB (fn:=f173) 0 1 func173 rfl (oD rfl) rfl (λ M G w0 b0 _ st0=>?_)
 refine st0.sqA [1,2,6] [(0,0)] (λ _ _ st1=>wp_block ?_)
 refine zF h (λ s2 a w=>∃ M1 q2_0,Sx (Frm.chg w0 G) 41 M M1 [q2_0] [(1,dt x1),(2,dt x2),(6,dt s2.2)] [(0,0,dnm oRun q2_0 ⟨s2.1⟩ (.pointer (some ⟨b0,0,none⟩)) [])] a w) fx ?_
 rintro s2 z2 a2 w2 ⟨M2,q2_0,st2⟩ hs2 hx2
 have h3:Z9 R x1 x2 s2=some z2:=hs2
 unfold Z9 at h3
 refine wp_seq ?_
 refine st2.sqA [1,2,6,10] [(0,0)] (λ _ _ st4=>?_)
 refine st4.cs rfl h3 (λ _ h5=>wp_skip (za (wp_seq (wp_block (wp_seq ?_))))) (λ _ h6=>wp_exit (zi (zi (zx ?_))))
 ·
  refine st4.sqB (sP 3 (r:=by exact sc rfl (xLf (sb:=0) ((PV.root.box rfl).fld owRunner.f6) rfl kT3 (tp rfl) rfl)<|segC)) [1,2,6,17] [(0,0)] (λ _ _ st7=>?_)
  refine st7.cs rfl h5 (λ _ h8=>wp_seq (wp_region_list ?_)) (λ _ h9=>wp_skip (za (wp_seq (wp_region_list ?_))))
  ·
   refine st7.segC 3 [20] [(0,0)] (λ _ _ st10=>?_)
   refine st10.sfA 0 0 ((PV.root.box rfl).fld owRunner.f5) (tp rfl) cI [] [] (λ _ st11=>wpList_nil (za ?_))
   refine wp_ret (zd (zn (zd (zd (zn ?_)))))
   have h12:=lo h8 hx2
   exact(st11.rs0 (s:=0) 0 rfl rfl iI (bx1 h12)).1
  obtain⟨v13,p13,h14⟩:=bs h9
  refine st7.segB 8 (sP 4 (r:=by exact sc rfl (xLf (sb:=0) ((PV.root.box rfl).fld owRunner.f6) rfl kT3 (tp rfl) rfl)<|segC)) [1,2,6,26,28] [(0,0)] (λ _ _ st15=>?_)
  refine st15.sfA 0 0 ((PV.root.box rfl).fld owRunner.f6) (tp rfl) (tp rfl) [1,2,6] [] (λ _ st16=>wpList_nil (za (wp_seq (wp_region_list ?_))))
  obtain⟨v17,p17,h18⟩:=bs h14
  refine st16.segC 6 [1,2,6,29,30,34] [(0,0)] (λ _ _ st19=>?_)
  obtain⟨v21,p21,h22⟩:=bs h18
  refine st19.cNA 0 0 (FnS.any (hR.spec_runStmt p21)) [1,2,6] [] (λ _ _ _ _ st20=>wpList_nil (za ?_))
  refine st20.sqB (sP 3 (r:=by exact sc rfl (xLf (sb:=0) ((PV.root.box rfl).fld owRunner.f5) rfl kT3 (tp rfl) rfl)<|segC)) [1,2,6,40] [(0,0)] (λ _ _ st23=>?_)
  refine st23.cs rfl h22 (λ _ h24=>wp_ret (zn (zd (zd (zn ?_))))) (λ _ h25=>wp_skip (zf (za ?_)))
  ·
   have h26:=lo h24 hx2
   exact(st23.rs0 (s:=0) 0 rfl rfl iI (bx1 h26)).1
  obtain⟨v27,p27,h28⟩:=bs h25
  refine st23.rgA [1,2,6] [(0,0)] (λ _ _ st29=>za ?_)
  exact fl h28
 have h30:=lo h6 hx2
 exact(st4.rs0 (s:=0) 0 rfl rfl iI (bx1 h30)).2
def XI(R:Rec)(x0:Runner)(x1:Int)(x2:Stmt):Option Runner:=
if(cmpI .eql x2.kind (0:Int))=true then((R.spec_importName x0 x2.module).bind λ v8=>
(XD x2.module (UInt8.ofNat 46)).bind λ v10=>
(atI v10 (0:Int)).bind λ v11=>
if(cmpI .neq v8.1.fin (0:Int))=true then(some v8.1)
else((wO v8.1 v11).bind λ v20=>
if(cmpI .lss v20.2 (0:Int))=true then(some ({ v20.1 with fin:=(1:Int) }))
else((wO v20.1 v11).bind λ v29=>
(jg v29.1 x1 v11 (⟨(1:Int),v29.2⟩:GVal)).bind λ v33=>
some v33)))
else(if(cmpI .eql x2.kind (1:Int))=true then((R.spec_runFrom x0 x1 x2).bind λ v40=>
some v40)
else(if(cmpI .eql x2.kind (2:Int))=true then((R.spec_runStar x0 x1 x2).bind λ v47=>
some v47)
else(if(cmpI .eql x2.kind (3:Int))=true then((jg x0 x1 x2.name (⟨(0:Int),x2.value⟩:GVal)).bind λ v54=>
some v54)
else(if(cmpI .eql x2.kind (4:Int))=true then((atI x0.mods x1).bind λ v60=>
(ZA v60.attrs x2.name).bind λ v62=>
if(cmpI .lss v62 (0:Int))=true then(some ({ x0 with fin:=(3:Int) }))
else((atI x0.mods x1).bind λ v76=>
(atI v76.attrs v62).bind λ v78=>
(WP v78.value).bind λ v79=>
(appO 8 x0.out ([v79]:List Int)).bind λ v88=>
some ({ x0 with out:=v88 })))
else(if(cmpI .eql x2.kind (5:Int))=true then(some ({ x0 with fin:=(4:Int) }))
else(some x0))))))
theorem zb6{R:Rec}(hR:R.ok){x0:Runner}{x1:Int}{x2:Stmt}{r:Runner}(h:XI R x0 x1 x2=some r):FnS prog 210 oRun ⟨x0⟩ [dt x1,dt x2] ⟨r⟩ .gone:=by
 unfold XI at h
 refine fnSB (fn:=f210) 1 2 func210 rfl (oD rfl) rfl (λ M G _ b0 _ st0=>?_)
 refine st0.sqA [1,5] [(0,1)] (λ _ _ st1=>?_)
 refine st1.sqA [1,5,9] [(0,1)] (λ _ _ st2=>wp_block ?_)
 refine st2.sqA [1,5,9,10] [(0,1)] (λ _ _ st3=>?_)
 refine st3.cs rfl h (λ _ h4=>wp_seq (wp_region_list ?_)) (λ _ h5=>?_)
 ·
  refine st3.segC 3 [1,5,12,14] [(0,1)] (λ _ _ st6=>?_)
  obtain⟨v8,p8,h9⟩:=bs h4
  refine st6.cNA 1 0 (hR.spec_importName p8) [1,5] [] (λ _ _ _ _ st7=>wpList_nil (za ?_))
  obtain⟨v10,p10,v11,p11,h13⟩:=bsB h9
  refine st7.sqB (sP 2 (r:=by exact sc rfl (oK (zb4 p10))<|sc rfl (xIdx rfl kS29 (tp rfl) cI p11)<|segC)) [1,6] [(0,1)] (λ _ _ st14=>wp_seq ?_)
  refine st14.sqB (sP 3 (r:=by exact sc rfl (xLf (sb:=0) ((PV.root.box rfl).fld owRunner.f5) rfl kT3 (tp rfl) rfl)<|segC)) [1,6,25] [(0,1)] (λ _ _ st15=>?_)
  refine st15.cs rfl h13 (λ _ h16=>wp_ret (zd (zn ?_))) (λ _ h17=>wp_skip (za (wp_seq (wp_seq (wp_region_list ?_)))))
  ·
   exact(st15.rs0 (s:=0) 1 rfl rfl iI (bx1 h16)).1
  refine st15.segC 2 [1,6,26,27] [(0,1)] (λ _ _ st18=>?_)
  obtain⟨v20,p20,h21⟩:=bs h17
  refine st18.cNA 1 0 (qk p20) [1,6] [] (λ _ _ _ _ st19=>?_)
  refine st19.segA 1 [1,6,29] [(0,1)] (λ _ _ st22=>wpList_nil (za ?_))
  refine st22.cs rfl h21 (λ _ h23=>wp_seq (wp_region_list ?_)) (λ _ h24=>wp_skip (za (wp_region_list ?_)))
  ·
   refine st22.segC 3 [32] [(0,1)] (λ _ _ st25=>?_)
   refine st25.sfA 0 1 ((PV.root.box rfl).fld owRunner.f5) (tp rfl) cI [] [] (λ _ st26=>wpList_nil (za ?_))
   refine wp_ret (zd (zn ?_))
   exact(st26.rs0 (s:=0) 1 rfl rfl iI (bx1 h23)).1
  refine st22.segC 5 [33,34,35,36,37] [(0,1)] (λ _ _ st27=>?_)
  obtain⟨v29,p29,h30⟩:=bs h24
  refine st27.cNA 1 0 (qk p29) [33,34,35] [] (λ _ _ _ _ st28=>?_)
  refine st28.segB 1 (sc rfl (ZX rfl cI (tp rfl))<|.nil) [33,34,35,39] [(0,1)] (λ _ _ st31=>?_)
  obtain⟨v33,p33,h34⟩:=bs h30
  refine st31.cNA 1 0 (FnS.any (qV p33)) [] [] (λ _ _ _ _ st32=>wpList_nil (zf ?_))
  exact(st32.rs0 (s:=0) 1 rfl rfl iI (bx1 h34)).2
 refine st3.sqA [1,5,9,41] [(0,1)] (λ _ _ st35=>?_)
 refine st35.cs rfl h5 (λ _ h36=>wp_region_list ?_) (λ _ h37=>?_)
 ·
  refine st35.segC 3 [43,44,45] [(0,1)] (λ _ _ st38=>?_)
  obtain⟨v40,p40,h41⟩:=bs h36
  refine st38.cNA 1 0 (FnS.any (hR.spec_runFrom p40)) [] [] (λ _ _ _ _ st39=>wpList_nil (zf ?_))
  exact(st39.rs0 (s:=0) 1 rfl rfl iI (bx1 h41)).2
 refine st35.sqA [1,5,9,47] [(0,1)] (λ _ _ st42=>?_)
 refine st42.cs rfl h37 (λ _ h43=>wp_region_list ?_) (λ _ h44=>?_)
 ·
  refine st42.segC 3 [49,50,51] [(0,1)] (λ _ _ st45=>?_)
  obtain⟨v47,p47,h48⟩:=bs h43
  refine st45.cNA 1 0 (FnS.any (hR.spec_runStar p47)) [] [] (λ _ _ _ _ st46=>wpList_nil (zf ?_))
  exact(st46.rs0 (s:=0) 1 rfl rfl iI (bx1 h48)).2
 refine st42.sqA [1,5,9,53] [(0,1)] (λ _ _ st49=>?_)
 refine st49.cs rfl h44 (λ _ h50=>wp_region_list ?_) (λ _ h51=>?_)
 ·
  refine st49.segB 7 (sP 6 (r:=by exact sc rfl (ZX rfl cI (tp rfl))<|.nil)) [55,56,58,61] [(0,1)] (λ _ _ st52=>?_)
  obtain⟨v54,p54,h55⟩:=bs h50
  refine st52.cNA 1 0 (FnS.any (qV p54)) [] [] (λ _ _ _ _ st53=>wpList_nil (zf ?_))
  exact(st53.rs0 (s:=0) 1 rfl rfl iI (bx1 h55)).2
 refine st49.sqA [1,5,9,63] [(0,1)] (λ _ _ st56=>?_)
 refine st56.cs rfl h51 (λ _ h57=>wp_seq ?_) (λ _ h58=>?_)
 ·
  obtain⟨v60,p60,v62,p62,h64⟩:=bsB h57
  refine st56.hdA 0 1 ((PV.root.box rfl).fld owRunner.f2) [] (λ g59 A59 _ hA59 st59=>?_)
  refine st59.hdA 0 1 ((((PV.root.box rfl).fld owRunner.f2).row (.head _) rfl (λ h=>hA59 h rfl) p60).fld owGModR.f5) [] (λ g61 A61 _ hA61 st61=>?_)
  refine st61.drA (D:=[_,_,_,_,_,_,_,_,_,_,_,_]) zH [[(0,nS)],[(65,0)],[(66,1)],[(67,2),(0,nS)],[(1,nS)],[(68,3),(69,4)],[(70,5)],[(71,6),(0,nS)],[(5,nS)],[(73,8)],[(72,7),(74,9),(0,nS)],[(75,10)]] [1,7] [(0,1)] (λ _ _ st65=>?_) (hs:=rc rfl rfl (oM rfl (zQ rfl))<|rc rfl rfl (xNc rfl (tp rfl))<|rc rfl rfl (xFa rfl Zh (tp rfl))<|rc rfl rfl (xLc (sb:=0) (.tail _ (.head _)) rfl rfl rfl kT35 (tp rfl) rfl)<|rc rfl rfl (oM rfl (tp rfl))<|rc rfl rfl (xIa (g:=g59) rfl kS35 (tp rfl) (tp rfl) rfl (λ h=>hA59 h rfl) p60)<|rc rfl rfl (xFa rfl Wi (tp rfl))<|rc rfl rfl (xLc (sb:=0) (.head _) rfl rfl rfl kT96 (tp rfl) rfl)<|rc rfl rfl (zz Stmt.fld3 rfl kF74_3 (tp rfl))<|rc rfl rfl (zp rfl kT9 (tp rfl))<|rc rfl rfl (yP (l:=[.tmp 72,.tmp 74]) st61.ob.sub rfl kN212 (.cons (lendP (sb:=0) st61.ob 1 ((((PV.root.box rfl).fld owRunner.f2).row (.tail _ (.head _)) rfl (λ h=>hA59 h rfl) p60).fld owGModR.f5) (.head _) rfl (ym rfl rfl) (tp rfl) rfl iI) (.cons (ww st61.ob.sub (tp rfl)) .nil)) (Wk p62) zZ)<|rc rfl rfl (oA rfl (tp rfl))<|.nil)
  have st66:=st65.ncf (s:=0) 1 rfl rfl iI [] rfl
  refine za (wp_seq ?_)
  refine st66.sqA [1,7,77] [(0,1)] (λ _ _ st67=>?_)
  refine st67.cs rfl h64 (λ _ h68=>wp_seq (wp_region_list ?_)) (λ _ h69=>wp_skip (za ?_))
  ·
   refine st67.segC 3 [80] [(0,1)] (λ _ _ st70=>?_)
   refine st70.sfA 0 1 ((PV.root.box rfl).fld owRunner.f5) (tp rfl) cI [] [] (λ _ st71=>wpList_nil (za ?_))
   refine wp_ret (zd (zn ?_))
   exact(st71.rs0 (s:=0) 1 rfl rfl iI (bx1 h68)).1
  refine st67.held (λ _=>True) zH (λ _ st72=>?_)
  refine st72.tN 0 0 trivial (λ _ st73=>?_)
  obtain⟨v76,p76,v78,p78,v79,p79,h82⟩:=bsC h69
  refine st73.hdA 0 1 ((PV.root.box rfl).fld owRunner.f4) [] (λ g74 A74 _ hA74 st74=>?_)
  refine st74.hdA 0 1 ((PV.root.box rfl).fld owRunner.f2) [] (λ g75 A75 _ hA75 st75=>?_)
  refine st75.hdA 0 1 ((((PV.root.box rfl).fld owRunner.f2).row (.head _) rfl (λ h=>hA75 h rfl) p76).fld owGModR.f5) [] (λ g77 A77 _ hA77 st77=>?_)
  refine st77.drnE (D:=[_,_,_,_,_,_,_,_,_,_,_,_,_,_,_,_,_,_,_]) 19 [0] [[(0,nS)],[(0,nS)],[(82,1)],[(83,2)],[(84,3),(0,nS)],[(0,nS)],[(86,5)],[(87,6)],[(88,7),(0,nS)],[(1,nS)],[(89,8),(90,9)],[(91,10)],[(92,11),(0,nS)],[(7,nS)],[(93,12),(94,13)],[(95,14)],[(96,15),(0,nS)],[(97,16)],[(98,17)],[(85,4),(99,18)],[(81,0)],[(101,20)],[(102,21),(100,19)]] (by decide +kernel) (by decide) (by decide +kernel) (by decide +kernel) (
   rc rfl rfl (oM rfl (zQ rfl))<|rc rfl rfl (oM rfl (zQ rfl))<|rc rfl rfl (xNc rfl (tp rfl))<|rc rfl rfl (xFa rfl kF158_4 (tp rfl))<|rc rfl rfl (xLc (sb:=0) (.tail _ (.tail _ (.head _))) rfl rfl rfl kT26 (tp rfl) rfl)<|rc rfl rfl (oM rfl (zQ rfl))<|rc rfl rfl (xNc rfl (tp rfl))<|rc rfl rfl (xFa rfl Zh (tp rfl))<|rc rfl rfl (xLc (sb:=0) (.tail _ (.head _)) rfl rfl rfl kT35 (tp rfl) rfl)<|rc rfl rfl (oM rfl (tp rfl))<|rc rfl rfl (xIa (g:=g75) rfl kS35 (tp rfl) (tp rfl) rfl (λ h=>hA75 h rfl) p76)<|rc rfl rfl (xFa rfl Wi (tp rfl))<|rc rfl rfl (xLc (sb:=0) (.head _) rfl rfl rfl kT96 (tp rfl) rfl)<|rc rfl rfl (oM rfl (tp rfl))<|rc rfl rfl (xIa (g:=g77) rfl kS96 (tp rfl) (tp rfl) rfl (λ h=>hA77 h rfl) p78)<|rc rfl rfl (xFa rfl zat (tp rfl))<|rc rfl rfl (xLf (sb:=0) ((((((PV.root.box rfl).fld owRunner.f2).row (.tail _ (.head _)) rfl (λ h=>hA75 h rfl) p76).fld owGModR.f5).row (.head _) rfl (λ h=>hA77 h rfl) p78).fld GAttr.z1) rfl W3 (tp rfl) rfl)<|rc rfl rfl (zE (l:=[.tmp 97]) rfl kN235 (.cons (tp rfl) .nil) (spec_shown_w p79))<|rc rfl rfl (yw (opds:=[.tmp 98]) rfl kS26 kY26 rfl rfl (by decide) (.cons (tp rfl) .nil))<|.nil) (by
 intro i hi x d hx
 simp only[List.mem_cons,List.not_mem_nil,or_false] at hi
 rcases hi with rfl
 all_goals (injection hx with hx;injection hx with h1 h2;subst h1;subst h2;rfl)) [81,85,99] rfl [(0,1)] rfl iT (λ _ _ st83=>?_)
  refine st83.mvG (s:=85) (sb:=0) 1 0 ((PV.root.box rfl).fld owRunner.f4) (.tail _ (.tail _ (.head _))) rfl (ym rfl rfl) rfl (by simp) (by simp) (by decide) rfl iI [81,99] rfl [] rfl rfl rfl rfl (λ _ H85 st85=>?_)
  refine st85.tipR (s:=85) 0 rfl rfl (by simp) iI [0] rfl rfl (λ g86 st86=>?_)
  obtain⟨v88,p88,h89⟩:=bs h82
  refine st86.apA 0 yW p88 [81] [0] (λ g87 _ _ _ st87=>?_)
  refine st87.segC 2 [102] [(0,1),(100,0)] (λ _ _ st90=>?_)
  have st92:=st90.tipW (s:=100) 0 rfl rfl iI [0] rfl
  refine st92.shA 0 100 1 0 (tp rfl) [] [] (λ _ _ st91=>wpList_nil (zf ?_))
  exact(st91.rs0 (s:=0) 1 rfl rfl iI (bx1 h89)).2
 refine st56.sqA [103] [(0,1)] (λ _ _ st93=>?_)
 refine st93.cs rfl h58 (λ _ h94=>wp_region_list ?_) (λ _ h95=>wp_skip (zf ?_))
 ·
  refine st93.segC 3 [107] [(0,1)] (λ _ _ st96=>?_)
  refine st96.sfA 0 1 ((PV.root.box rfl).fld owRunner.f5) (tp rfl) cI [] [] (λ _ st97=>wpList_nil (zf ?_))
  exact(st97.rs0 (s:=0) 1 rfl rfl iI (bx1 h94)).2
 exact(st93.rs0 (s:=0) 1 rfl rfl iI (bx1 h95)).2
def Ya(_R:Rec)(x1:Int)(v13:List GAttr)(s19:Runner×Int):Option ((Runner×Int)⊕Runner):=
if(cmpI .lss s19.2 (v13.length:Int))=true then(Option.bind (α:=Runner) ((atI v13 s19.2).bind λ v25=>
(atI v25.name.l (0:Int)).bind λ v26=>
if(cmpB .neq v26 (UInt8.ofNat 122))=true then((atI v13 s19.2).bind λ v32=>
(atI v13 s19.2).bind λ v33=>
(jg s19.1 x1 v32.name v33.value).bind λ v38=>
some v38)
else(some s19.1)) λ o24=>
(i64 (s19.2+(1:Int))).bind λ v41=>
some (.inl (o24,v41)))
else(some (.inr s19.1))
def XJ(R:Rec)(x0:Runner)(x1:Int)(x2:Stmt):Option Runner:=
(R.spec_importName x0 x2.module).bind λ v4=>
if(cmpI .neq v4.1.fin (0:Int))=true then(some v4.1)
else((atI v4.1.mods v4.2).bind λ v11=>
(appO 32 [] v11.attrs).bind λ v13=>
zL (λ s19=>Ya R x1 v13 s19) (v4.1,(0:Int)))
theorem zb7{R:Rec}(hR:R.ok){x0:Runner}{x1:Int}{x2:Stmt}{r:Runner}(h:XJ R x0 x1 x2=some r):FnS prog 234 oRun ⟨x0⟩ [dt x1,dt x2] ⟨r⟩ .gone:=by
 unfold XJ at h
 refine fnSB (fn:=f234) 0 1 func234 rfl (oD rfl) rfl (λ M G w0 b0 _ st0=>?_)
 refine st0.sqA [1,5] [(0,0)] (λ _ _ st1=>wp_seq (wp_region_list ?_))
 refine st1.segC 3 [1,9,11] [(0,0)] (λ _ _ st2=>?_)
 obtain⟨v4,p4,h5⟩:=bs h
 refine st2.cNA 0 0 (hR.spec_importName p4) [1] [] (λ _ _ _ _ st3=>?_)
 refine st3.segA 1 [1,6] [(0,0)] (λ _ _ st6=>wpList_nil (za (wp_seq ?_)))
 refine st6.sqB (sP 3 (r:=by exact sc rfl (xLf (sb:=0) ((PV.root.box rfl).fld owRunner.f5) rfl kT3 (tp rfl) rfl)<|segC)) [1,6,17] [(0,0)] (λ _ _ st7=>?_)
 refine st7.cs rfl h5 (λ _ h8=>wp_ret (zd ?_)) (λ _ h9=>wp_skip (za ?_))
 ·
  exact(st7.rs0 (s:=0) 0 rfl rfl iI (bx1 h8)).1
 obtain⟨v11,p11,v13,p13,h15⟩:=bsB h9
 refine st7.hdA 0 0 ((PV.root.box rfl).fld owRunner.f2) [] (λ g10 A10 _ hA10 st10=>?_)
 refine st10.hdA 0 0 ((((PV.root.box rfl).fld owRunner.f2).row (.head _) rfl (λ h=>hA10 h rfl) p11).fld owGModR.f5) [] (λ g12 A12 _ hA12 st12=>?_)
 refine st12.sqB (sc rfl (wl (α:=GAttr) (e:=189) rfl kS96)<|sP 5 (r:=by exact sc rfl (xIa (g:=g10) rfl kS35 (tp rfl) (tp rfl) rfl (λ h=>hA10 h rfl) p11)<|sP 2 (r:=by exact sc rfl (op_app1 rfl kE96 (tp rfl) (row_hd (sb:=0) ((((PV.root.box rfl).fld owRunner.f2).row (.tail _ (.head _)) rfl (λ h=>hA10 h rfl) p11).fld owGModR.f5) (.head _) rfl (ym rfl rfl) rfl (tp rfl)) p13)<|segC))) [1,7] [(0,0)] (λ _ _ st16=>?_)
 have st17:=st16.ncf (s:=0) 0 rfl rfl iI [] rfl
 refine st17.sqA [1,7,8] [(0,0)] (λ _ _ st18=>wp_block ?_)
 refine zF h15 (λ s19 a w=>∃ M1 q19_0,Sx (Frm.chg w0 G) 54 M M1 [q19_0] [(1,dt x1),(7,dt v13),(8,dt s19.2)] [(0,0,dnm oRun q19_0 ⟨s19.1⟩ (.pointer (some ⟨b0,0,none⟩)) [])] a w) fx ?_
 rintro s19 z19 a19 w19 ⟨M19,q19_0,st19⟩ hs19 hx19
 have h20:Ya R x1 v13 s19=some z19:=hs19
 unfold Ya at h20
 refine wp_seq ?_
 refine st19.sqA [1,7,8,31] [(0,0)] (λ _ _ st21=>?_)
 refine st21.cs rfl h20 (λ _ h22=>wp_skip (za ?_)) (λ _ h23=>wp_exit (zi (zi (zx ?_))))
 ·
  obtain⟨o24,p24,k24⟩:=bs h22
  refine zj (λ a w=>∃ M1 q24_0,Sx (Frm.chg w0 G) 54 M M1 [q24_0] [(1,dt x1),(7,dt v13),(8,dt s19.2)] [(0,0,dnm oRun q24_0 ⟨o24⟩ (.pointer (some ⟨b0,0,none⟩)) [])] a w) ?_ ?_
  ·
   refine wp_block ?_
   obtain⟨v25,p25,v26,p26,h28⟩:=bsB p24
   refine st21.sqB (sP 5 (r:=by exact sc rfl (xByte rfl kX9 (tp rfl) cI p26)<|sc rfl (oCB rfl (tp rfl) (ZO (by decide)))<|.nil)) [1,7,8,40] [(0,0)] (λ _ _ st29=>?_)
   refine st29.cs rfl h28 (λ _ h30=>?_) (λ _ h31=>wp_skip (zf (za ?_)))
   ·
    obtain⟨v32,p32,v33,p33,h35⟩:=bsB h30
    refine st29.drnA (D:=[_,_,_,_,_,_,_,_,_,_,_,_]) zH 12 [[(0,nS)],[(1,nS)],[(7,nS)],[(8,nS)],[(43,2),(44,3)],[(45,4)],[(46,5)],[(7,nS)],[(8,nS)],[(48,7),(49,8)],[(50,9)],[(51,10)],[(41,0),(42,1),(47,6),(52,11)]] [1,7,8,41,42,47,52] [(0,0)] (λ _ _ st36=>?_) (hs:=rc rfl rfl (oM rfl (zQ rfl))<|rc rfl rfl (oM rfl (tp rfl))<|rc rfl rfl (oM rfl (tp rfl))<|rc rfl rfl (oM rfl (tp rfl))<|rc rfl rfl (xIdx rfl kS96 (tp rfl) (tp rfl) p32)<|rc rfl rfl (zz GAttr.fld0 rfl kF189_0 (tp rfl))<|rc rfl rfl (zp rfl kT9 (tp rfl))<|rc rfl rfl (oM rfl (tp rfl))<|rc rfl rfl (oM rfl (tp rfl))<|rc rfl rfl (xIdx rfl kS96 (tp rfl) (tp rfl) p33)<|rc rfl rfl (zz GAttr.fld1 rfl zat (tp rfl))<|rc rfl rfl (zp rfl W3 (tp rfl))<|.nil)
    obtain⟨v38,p38,h39⟩:=bs h35
    refine st36.cSF (l:=[.tmp 42,.tmp 47,.tmp 52]) 0 (st36.bkN (s:=0) rfl iI) rfl rfl kN175 (Eq.trans (st36.st.has 41 _ rfl) (st36.st.has 0 _ rfl).1.symm) (by simp) (.cons (tp rfl) (.cons (tp rfl) (.cons (tp rfl) .nil))) (FnS.any (qV p38)) [1,7,8] rfl [] rfl rfl (by decide) (λ _ _ _ _ st37=>wpList_nil (zf (za ?_)))
    cases h39
    exact fx
   cases h31
   exact fx
  rintro a24 w24 ⟨M24,q24_0,st24⟩
  have h40:=k24
  obtain⟨v41,p41,h42⟩:=bs h40
  refine st24.rgA [1,7,8] [(0,0)] (λ _ _ st43=>za ?_)
  exact fl h42
 have h44:=lo h23 hx19
 exact(st21.rs0 (s:=0) 0 rfl rfl iI (bx1 h44)).2
def XK(R:Rec)(x0:Runner)(x1:Int)(x2:Stmt):Option Runner:=
(atI x0.mods x1).bind λ v3=>
(Yu v3).bind λ v5=>
(jh v5 x2.level x2.module).bind λ v6=>
(yZ v6).bind λ v12=>
if(!v12)=true then(some ({ x0 with fin:=(5:Int) }))
else((R.spec_importName x0 v6).bind λ v21=>
if(cmpI .neq v21.1.fin (0:Int))=true then(some v21.1)
else((R.spec_fromName v21.1 v21.2 x2.name).bind λ v29=>
if(cmpI .eql v29.1.fin (0:Int))=true then((jg v29.1 x1 x2.name v29.2).bind λ v40=>
some v40)
else(some v29.1)))
theorem zb8{R:Rec}(hR:R.ok){x0:Runner}{x1:Int}{x2:Stmt}{r:Runner}(h:XK R x0 x1 x2=some r):FnS prog 233 oRun ⟨x0⟩ [dt x1,dt x2] ⟨r⟩ .gone:=by
 unfold XK at h
 refine fnSB (fn:=f233) 0 2 func233 rfl (oD rfl) rfl (λ M G _ b0 _ st0=>?_)
 refine st0.sqA [1,5] [(0,0)] (λ _ _ st1=>wp_seq ?_)
 obtain⟨v3,p3,v5,p5,v6,p6,h9⟩:=bsC h
 refine st1.hdA 0 0 ((PV.root.box rfl).fld owRunner.f2) [] (λ g2 A2 _ hA2 st2=>?_)
 refine st2.hdW (s:=0) 0 true (λ _=>(((PV.root.box rfl).fld owRunner.f2).row (.head _) rfl (λ h=>hA2 h rfl) p3)) rfl rfl iI [] rfl (λ cs4 hS4 st4=>?_)
 refine st4.drA (D:=[_,_,_,_,_,_,_,_,_,_,_,_,_,_]) zH [[(0,nS)],[(9,0)],[(10,1)],[(11,2),(0,nS)],[(1,nS)],[(12,3),(13,4)],[(14,5),(0,nS)],[(15,6),(0,nS)],[(5,nS)],[(17,8)],[(5,nS)],[(19,10)],[(16,7),(18,9),(20,11)],[(21,12)]] [1,5,6] [(0,0)] (λ _ _ st10=>?_) (hs:=rc rfl rfl (oM rfl (zQ rfl))<|rc rfl rfl (xNc rfl (tp rfl))<|rc rfl rfl (xFa rfl Zh (tp rfl))<|rc rfl rfl (xLc (sb:=0) (.tail _ (.head _)) rfl rfl rfl kT35 (tp rfl) rfl)<|rc rfl rfl (oM rfl (tp rfl))<|rc rfl rfl (xIa (g:=g2) rfl kS35 (tp rfl) (tp rfl) rfl (λ h=>hA2 h rfl) p3)<|rc rfl rfl (xLw (sb:=0) (.head _) rfl (hS4 rfl) rfl kT98 (tp rfl) rfl)<|rc rfl rfl (yP (l:=[.tmp 15]) st4.ob.sub rfl kN249 (.cons (lendP (sb:=0) st4.ob 0 (((PV.root.box rfl).fld owRunner.f2).row (.tail _ (.head _)) rfl (λ h=>hA2 h rfl) p3) (.head _) rfl (fits_all rfl (hS4 rfl)) (tp rfl) rfl iI) .nil) (za4 p5) YP)<|rc rfl rfl (zz Stmt.fld2 rfl kF74_2 (tp rfl))<|rc rfl rfl (zp rfl kT3 (tp rfl))<|rc rfl rfl (zz Stmt.fld1 rfl kF74_1 (tp rfl))<|rc rfl rfl (zp rfl kT9 (tp rfl))<|rc rfl rfl (zE (l:=[.tmp 16,.tmp 18,.tmp 20]) rfl kN194 (.cons (tp rfl) (.cons (tp rfl) (.cons (tp rfl) .nil))) (Jn p6))<|rc rfl rfl (oA rfl (tp rfl))<|.nil)
 have st11:=st10.ncf (s:=0) 0 rfl rfl iI [] rfl
 refine za (wp_seq ?_)
 obtain⟨v12,p12,h13⟩:=bsW h9 Zg
 refine st11.sqA [1,5,6,24] [(0,0)] (λ _ _ st14=>?_)
 refine st14.cs rfl h13 (λ _ h15=>wp_seq (wp_region_list ?_)) (λ _ h16=>wp_skip (za (wp_seq (wp_region_list ?_))))
 ·
  refine st14.segC 3 [27] [(0,0)] (λ _ _ st17=>?_)
  refine st17.sfA 0 0 ((PV.root.box rfl).fld owRunner.f5) (tp rfl) cI [] [] (λ _ st18=>wpList_nil (za ?_))
  refine wp_ret (zd ?_)
  exact(st18.rs0 (s:=0) 0 rfl rfl iI (bx1 h15)).1
 refine st14.segC 2 [1,5,28,29] [(0,0)] (λ _ _ st19=>?_)
 obtain⟨v21,p21,h22⟩:=bs h16
 refine st19.cNA 0 0 (hR.spec_importName p21) [1,5] [] (λ _ _ _ _ st20=>?_)
 refine st20.segA 1 [1,5,7] [(0,0)] (λ _ _ st23=>wpList_nil (za (wp_seq ?_)))
 refine st23.sqB (sP 3 (r:=by exact sc rfl (xLf (sb:=0) ((PV.root.box rfl).fld owRunner.f5) rfl kT3 (tp rfl) rfl)<|segC)) [1,5,7,35] [(0,0)] (λ _ _ st24=>?_)
 refine st24.cs rfl h22 (λ _ h25=>wp_ret (zd ?_)) (λ _ h26=>wp_skip (za (wp_seq (wp_region_list ?_))))
 ·
  exact(st24.rs0 (s:=0) 0 rfl rfl iI (bx1 h25)).1
 refine st24.segC 4 [1,5,36,37,39] [(0,0)] (λ _ _ st27=>?_)
 obtain⟨v29,p29,h30⟩:=bs h26
 refine st27.cNA 0 0 (hR.spec_fromName p29) [1,5] [] (λ _ _ _ _ st28=>?_)
 refine st28.alA 1 WJ [1,5,40] [0] (λ b32 _ _ _ st32=>?_)
 refine st32.stA 8 1 FldS.id (tp rfl) [1,5] [0] (λ _ _ st34=>wpList_nil (za ?_))
 refine st34.sqB (sP 3 (r:=by exact sc rfl (xLf (sb:=0) ((PV.root.box rfl).fld owRunner.f5) rfl kT3 (tp rfl) rfl)<|segC)) [1,5,45] [(0,0),(8,1)] (λ _ _ st35=>?_)
 refine st35.cs rfl h30 (λ _ h36=>wp_region_list ?_) (λ _ h37=>wp_skip ?_)
 ·
  refine st35.segC 5 [46,47,49,50] [(0,0)] (λ _ _ st38=>?_)
  obtain⟨v40,p40,h41⟩:=bs h36
  refine st38.cNA 0 0 (FnS.any (qV p40)) [] [] (λ _ _ _ _ st39=>wpList_nil ?_)
  exact(st39.rs0 (s:=0) 0 rfl rfl iI (bx1 h41)).2
 exact(st35.rs0 (s:=0) 0 rfl rfl iI (bx1 h37)).2
def Y6(R:Rec)(x0:Runner)(x1:Int)(x2:Str):Option (Runner×GVal):=
(atI x0.mods x1).bind λ v4=>
(ZA v4.attrs x2).bind λ v6=>
if(cmpI .geq v6 (0:Int))=true then((atI x0.mods x1).bind λ v15=>
(atI v15.attrs v6).bind λ v17=>
some (x0,v17.value))
else((atI x0.mods x1).bind λ v25=>
(Z7 v25.name x2).bind λ v26=>
(atI x0.mods x1).bind λ v32=>
(gO (cmpI .eql v32.kind (1:Int) == false) (yZ v26)).bind λ v33=>
if(cmpI .eql v32.kind (1:Int)||(!v33))=true then(some ({ x0 with fin:=(2:Int) },(⟨0,0⟩:GVal)))
else((wO x0 v26).bind λ v47=>
(gO (cmpI .lss v47.2 (0:Int) == true) (YD v47.1 v26)).bind λ v51=>
if(cmpI .lss v47.2 (0:Int)&&cmpI .eql v51.2.kind (0:Int))=true then(some ({ (if(cmpI .lss v47.2 (0:Int) == true)=true then v51.1 else v47.1) with fin:=(2:Int) },(⟨0,0⟩:GVal)))
else((R.spec_importName (if(cmpI .lss v47.2 (0:Int) == true)=true then v51.1 else v47.1) v26).bind λ v63=>
some (v63.1,(⟨(1:Int),v63.2⟩:GVal)))))
theorem zbK{R:Rec}(hR:R.ok){x0:Runner}{x1:Int}{x2:Str}{r:Runner×GVal}(h:Y6 R x0 x1 x2=some r):FnS prog 250 oRun ⟨x0⟩ [dt x1,dt x2] ⟨r.1⟩ (.frz (dt r.2)):=by
 unfold Y6 at h
 refine fnSB (fn:=f250) 0 2 func250 rfl (oD rfl) rfl (λ M G _ b0 _ st0=>wp_seq (wp_region_list ?_))
 refine st0.alA 1 WJ [1,2] [0] (λ b2 _ _ _ st2=>wpList_nil (za (wp_seq ?_)))
 obtain⟨v4,p4,v6,p6,h8⟩:=bsB h
 refine st2.hdA 0 0 ((PV.root.box rfl).fld owRunner.f2) [6] (λ g3 A3 _ hA3 st3=>?_)
 refine st3.hdA 0 0 ((((PV.root.box rfl).fld owRunner.f2).row (.head _) rfl (λ h=>hA3 h rfl) p4).fld owGModR.f5) [6] (λ g5 A5 _ hA5 st5=>?_)
 refine st5.sqB (sP 5 (r:=by exact sc rfl (xIa (g:=g3) rfl kS35 (tp rfl) (tp rfl) rfl (λ h=>hA3 h rfl) p4)<|sP 3 (r:=by exact sc rfl (yP (l:=[.tmp 16,.tmp 17]) st5.ob.sub rfl kN212 (.cons (lendP (sb:=0) st5.ob 0 ((((PV.root.box rfl).fld owRunner.f2).row (.tail _ (.head _)) rfl (λ h=>hA3 h rfl) p4).fld owGModR.f5) (.head _) rfl (ym rfl rfl) (tp rfl) rfl iI) (.cons (ww st5.ob.sub (tp rfl)) .nil)) (Wk p6) zZ)<|segC))) [1,2,7] [(0,0),(6,1)] (λ _ _ st9=>?_)
 have st10:=st9.ncf (s:=0) 0 rfl rfl iI [6] rfl
 refine st10.sqA [1,2,7,20] [(0,0),(6,1)] (λ _ _ st11=>?_)
 refine st11.cs rfl h8 (λ _ h12=>wp_seq (wp_region_list ?_)) (λ _ h13=>wp_skip (za ?_))
 ·
  obtain⟨v15,p15,v17,p17,h19⟩:=bsB h12
  refine st11.hdA 0 0 ((PV.root.box rfl).fld owRunner.f2) [6] (λ g14 A14 _ hA14 st14=>?_)
  refine st14.hdA 0 0 ((((PV.root.box rfl).fld owRunner.f2).row (.head _) rfl (λ h=>hA14 h rfl) p15).fld owGModR.f5) [6] (λ g16 A16 _ hA16 st16=>?_)
  refine st16.segB 12 (sP 5 (r:=by exact sc rfl (xIa (g:=g14) rfl kS35 (tp rfl) (tp rfl) rfl (λ h=>hA14 h rfl) p15)<|sP 3 (r:=by exact sc rfl (xIa (g:=g16) rfl kS96 (tp rfl) (tp rfl) rfl (λ h=>hA16 h rfl) p17)<|sP 1 (r:=by exact sc rfl (xLf (sb:=0) ((((((PV.root.box rfl).fld owRunner.f2).row (.tail _ (.head _)) rfl (λ h=>hA14 h rfl) p15).fld owGModR.f5).row (.head _) rfl (λ h=>hA16 h rfl) p17).fld GAttr.z1) rfl W3 (tp rfl) rfl)<|.nil)))) [32] [(0,0),(6,1)] (λ _ _ st20=>?_)
  refine st20.stA 6 1 FldS.id (tp rfl) [] [0] (λ _ _ st22=>wpList_nil ?_)
  have st23:=st22.ncf (s:=0) 0 rfl rfl iI [6] rfl
  refine za ?_
  refine wp_ret (zd ?_)
  exact st23.rsC (s:=0) 0 rfl W3 rfl rfl iI (bxr h19)
 obtain⟨v25,p25,v26,p26,h28⟩:=bsB h13
 refine st11.hdA 0 0 ((PV.root.box rfl).fld owRunner.f2) [6] (λ g24 A24 _ hA24 st24=>?_)
 refine st24.sqB (sP 5 (r:=by exact sc rfl (xIa (g:=g24) rfl kS35 (tp rfl) (tp rfl) rfl (λ h=>hA24 h rfl) p25)<|sP 1 (r:=by exact sc rfl (xLf (sb:=0) ((((PV.root.box rfl).fld owRunner.f2).row (.head _) rfl (λ h=>hA24 h rfl) p25).fld owGModR.f0) rfl kT9 (tp rfl) rfl)<|sP 1 (r:=by exact sc rfl (oK (zas p26))<|segC)))) [1,8] [(0,0),(6,1)] (λ _ _ st29=>?_)
 have st30:=st29.ncf (s:=0) 0 rfl rfl iI [6] rfl
 refine wp_seq ?_
 obtain⟨v32,p32,v33,p33,h35⟩:=bsB h28
 refine st30.hdA 0 0 ((PV.root.box rfl).fld owRunner.f2) [6] (λ g31 A31 _ hA31 st31=>?_)
 refine st31.sqB (sP 5 (r:=by exact sc rfl (xIa (g:=g31) rfl kS35 (tp rfl) (tp rfl) rfl (λ h=>hA31 h rfl) p32)<|sP 1 (r:=by exact sc rfl (xLf (sb:=0) ((((PV.root.box rfl).fld owRunner.f2).row (.head _) rfl (λ h=>hA31 h rfl) p32).fld owGModR.f1) rfl kT3 (tp rfl) rfl)<|sP 3 (r:=by exact sg rfl rfl (λ hg=>oK (Zg (gh hg p33)))<|segC)))) [8,56] [(0,0),(6,1)] (λ _ _ st36=>?_)
 have st37:=st36.ncf (s:=0) 0 rfl rfl iI [6] rfl
 refine st37.cs rfl h35 (λ _ h38=>wp_seq (wp_region_list ?_)) (λ _ h39=>wp_skip (za (wp_seq (wp_seq (wp_region_list ?_)))))
 ·
  refine st37.segC 3 [59] [(0,0),(6,1)] (λ _ _ st40=>?_)
  refine st40.sfA 0 0 ((PV.root.box rfl).fld owRunner.f5) (tp rfl) cI [] [6] (λ _ st41=>wpList_nil (za (wp_seq (wp_region_list ?_))))
  refine st41.segB 1 (sc rfl (yt (parts:=[]) (ns:=[1,1]) (zs:=zpGVal) rfl rfl kB154 kC154 (λ w a hl=>by simp) (λ w a hl=>GVal.parts (x:=(⟨0,0⟩:GVal)) ⟨rfl,trivial⟩ ⟨rfl,trivial⟩))<|.nil) [60] [(0,0),(6,1)] (λ _ _ st42=>?_)
  refine st42.stA 6 1 FldS.id (tp rfl) [] [0] (λ _ _ st44=>wpList_nil (za ?_))
  refine wp_ret (zd ?_)
  exact st44.rsC (s:=0) 0 rfl W3 rfl rfl iI (bxr h38)
 refine st37.segC 2 [8,61,62] [(0,0),(6,1)] (λ _ _ st45=>?_)
 obtain⟨v47,p47,h48⟩:=bs h39
 refine st45.cNA 0 0 (qk p47) [8] [6] (λ _ _ _ _ st46=>?_)
 refine st46.segB 4 (sc rfl (oCI rfl (tp rfl) cI)<|sc rfl (oM rfl (tp rfl))<|sg rfl rfl (λ hg=>oM rfl (zQ rfl))<|sg rfl rfl (λ hg=>oM rfl (tp rfl))<|.nil) [8,65,66,67] [(0,0),(6,1)] (λ _ _ st49=>?_)
 obtain⟨v51,p51,h52⟩:=bs h48
 refine st49.cSFgB (sb:=0) (l:=[.tmp 67]) 0 rfl iI rfl rfl rfl kN172 (λ hg=>(st49.st.has 66 _ rfl).1 hg) (by simp) (λ hg=>(.cons (zl hg rfl) .nil)) (λ hg=>Qc (gh hg p51)) [8,65] rfl [6] rfl rfl (by decide) (λ _ _ _ _ st50=>?_)
 refine st50.segB 3 (sg rfl rfl (λ hg=>zaU Spec.fld0 rfl rfl kG71_0 (zl hg rfl))<|segC) [8,71] [(0,0),(6,1)] (λ _ _ st53=>wpList_nil (za ?_))
 refine st53.cs rfl h52 (λ _ h54=>wp_seq (wp_region_list ?_)) (λ _ h55=>wp_skip (za (wp_seq (wp_region_list ?_))))
 ·
  refine st53.segC 3 [74] [(0,0),(6,1)] (λ _ _ st56=>?_)
  refine st56.sfA 0 0 ((PV.root.box rfl).fld owRunner.f5) (tp rfl) cI [] [6] (λ _ st57=>wpList_nil (za (wp_seq (wp_region_list ?_))))
  refine st57.segB 1 (sc rfl (yt (parts:=[]) (ns:=[1,1]) (zs:=zpGVal) rfl rfl kB154 kC154 (λ w a hl=>by simp) (λ w a hl=>GVal.parts (x:=(⟨0,0⟩:GVal)) ⟨rfl,trivial⟩ ⟨rfl,trivial⟩))<|.nil) [75] [(0,0),(6,1)] (λ _ _ st58=>?_)
  refine st58.stA 6 1 FldS.id (tp rfl) [] [0] (λ _ _ st60=>wpList_nil (za ?_))
  refine wp_ret (zd ?_)
  exact st60.rsC (s:=0) 0 rfl W3 rfl rfl iI (bxr h54)
 refine st53.segC 2 [76,77] [(0,0),(6,1)] (λ _ _ st61=>?_)
 obtain⟨v63,p63,h64⟩:=bs h55
 refine st61.cNA 0 0 (hR.spec_importName p63) [] [6] (λ _ _ _ _ st62=>?_)
 refine st62.segB 1 (sc rfl (ZX rfl cI (tp rfl))<|.nil) [79] [(0,0),(6,1)] (λ _ _ st65=>?_)
 refine st65.stA 6 1 FldS.id (tp rfl) [] [0] (λ _ _ st67=>wpList_nil (za (wp_ret ?_)))
 exact st67.rsC (s:=0) 0 rfl W3 rfl rfl iI (bxr h64)
def Yb(R:Rec)(x0:Runner)(x1:Str):Option (Runner×Int):=
(wO x0 x1).bind λ v4=>
if(cmpI .geq v4.2 (0:Int))=true then((qU v4.1 (3:Int) x1).bind λ v13=>
some (v13,v4.2))
else((xj x1).bind λ v17=>
(gO (decide (v17≠(⟨[]⟩:Str)) == true) (R.spec_importName v4.1 v17)).bind λ v22=>
if(decide (v17≠(⟨[]⟩:Str))&&cmpI .lss v22.2 (0:Int))=true then(some ((if(decide (v17≠(⟨[]⟩:Str)) == true)=true then v22.1 else v4.1),(-1:Int)))
else((wO (if(decide (v17≠(⟨[]⟩:Str)) == true)=true then v22.1 else v4.1) x1).bind λ v31=>
if(cmpI .geq v31.2 (0:Int))=true then((qU v31.1 (3:Int) x1).bind λ v40=>
some (v40,v31.2))
else((YD v31.1 x1).bind λ v46=>
if(cmpI .eql v46.2.kind (0:Int))=true then(some ({ v46.1 with fin:=(1:Int) },(-1:Int)))
else(Option.bind (α:=Runner) ((appO 80 v46.1.mods [(⟨x1,v46.2.kind,v46.2.roots,true,false,[]⟩:GMod)]).bind λ v86=>
some ({ v46.1 with mods:=v86 })) λ o65=>
(qU o65 (0:Int) x1).bind λ v140=>
Option.bind (α:=Runner) (if(cmpI .geq v46.2.file (0:Int))=true then((Wj v140 v46.2.file).bind λ v149=>
(R.spec_runBody v149.1 (v46.1.mods.length:Int) v149.2).bind λ v153=>
some v153)
else(some v140)) λ o143=>
if(cmpI .neq o143.fin (0:Int))=true then((atI o143.mods (v46.1.mods.length:Int)).bind λ v161=>
(qU ({ o143 with mods:=(o143.mods.set (v46.1.mods.length:Int).toNat ({ v161 with cached:=false })) }) (2:Int) x1).bind λ v167=>
some (v167,(-1:Int)))
else((atI o143.mods (v46.1.mods.length:Int)).bind λ v172=>
(qU ({ o143 with mods:=(o143.mods.set (v46.1.mods.length:Int).toNat ({ v172 with done:=true })) }) (1:Int) x1).bind λ v178=>
Option.bind (α:=Runner) ((wO v178 v17).bind λ v184=>
if(cmpI .geq v184.2 (0:Int))=true then((X4 x1).bind λ v191=>
(jg v184.1 v184.2 v191 (⟨(1:Int),(v46.1.mods.length:Int)⟩:GVal)).bind λ v195=>
some v195)
else(some v184.1)) λ o181=>
some (o181,(v46.1.mods.length:Int)))))))
theorem zay{R:Rec}(hR:R.ok){x0:Runner}{x1:Str}{r:Runner×Int}(h:Yb R x0 x1=some r):FnS prog 127 oRun ⟨x0⟩ [dt x1] ⟨r.1⟩ (.frz (dt r.2)):=by
 unfold Yb at h
 refine fnSB (fn:=f127) 4 6 func127 rfl (oD rfl) rfl (λ M G w0 b0 _ st0=>?_)
 refine st0.sqA [1] [(0,4)] (λ _ _ st1=>wp_seq (wp_seq (wp_region_list ?_)))
 refine st1.segC 2 [1,11,12] [(0,4)] (λ _ _ st2=>?_)
 obtain⟨v4,p4,h5⟩:=bs h
 refine st2.cNA 4 0 (qk p4) [1] [] (λ G3 _ _ _ st6=>?_)
 refine st6.segA 1 [1,5] [(0,4)] (λ _ _ st7=>wpList_nil (za ?_))
 refine st7.sqA [1,5,15] [(0,4)] (λ _ _ st8=>?_)
 refine st8.cs rfl h5 (λ _ h9=>wp_seq (wp_region_list ?_)) (λ _ h10=>wp_skip (za ?_))
 ·
  refine st8.segC 2 [5,16,17] [(0,4)] (λ _ _ st11=>?_)
  obtain⟨v13,p13,h14⟩:=bs h9
  refine st11.cNA 4 0 (FnS.any (YT p13)) [5] [] (λ G12 _ _ _ st15=>wpList_nil (za ?_))
  refine st15.sqA [4] [(0,4)] (λ _ _ st16=>wp_ret (zd ?_))
  exact st16.rsF (s:=0) 4 rfl rfl rfl iI (bxr h14) zZ
 obtain⟨v17,p17,h18⟩:=bsW h10 Zy
 refine st8.sqA [1,6] [(0,4)] (λ _ _ st19=>wp_seq (wp_seq (wp_region_list ?_)))
 refine st19.segB 5 (sc rfl (oM rfl (tp rfl))<|sc rfl (W7 rfl (tp rfl) (zN (by decide)))<|sc rfl (oM rfl (tp rfl))<|sg rfl rfl (λ hg=>oM rfl (zQ rfl))<|sg rfl rfl (λ hg=>oM rfl (tp rfl))<|.nil) [1,6,24,25,26] [(0,4)] (λ _ _ st20=>?_)
 obtain⟨v22,p22,h23⟩:=bs h18
 refine st20.cSFgB (sb:=0) (l:=[.tmp 26]) 4 rfl iI rfl rfl rfl kN127 (λ hg=>(st20.st.has 25 _ rfl).1 hg) (by simp) (λ hg=>(.cons (zl hg rfl) .nil)) (λ hg=>hR.spec_importName (gh hg p22)) [1,6,24] rfl [] rfl rfl (by decide) (λ _ _ _ _ st21=>?_)
 have st24:=st21.gn
 refine st24.segC 2 [1,6,29] [(0,4)] (λ _ _ st25=>wpList_nil (za ?_))
 refine st25.cs rfl h23 (λ _ h26=>?_) (λ _ h27=>wp_skip (za (wp_seq (wp_seq (wp_region_list ?_)))))
 ·
  refine st25.sqA [4] [(0,4)] (λ _ _ st28=>wp_ret (zd ?_))
  exact st28.rsF (s:=0) 4 rfl rfl rfl iI (bxr h26) zZ
 refine st25.segC 2 [1,6,30,31] [(0,4)] (λ _ _ st29=>?_)
 obtain⟨v31,p31,h32⟩:=bs h27
 refine st29.cNA 4 0 (qk p31) [1,6] [] (λ G30 _ _ _ st33=>?_)
 refine st33.segA 1 [1,6,7] [(0,4)] (λ _ _ st34=>wpList_nil (za ?_))
 refine st34.sqA [1,6,7,34] [(0,4)] (λ _ _ st35=>?_)
 refine st35.cs rfl h32 (λ _ h36=>wp_seq (wp_region_list ?_)) (λ _ h37=>wp_skip (za (wp_seq (wp_region_list ?_))))
 ·
  refine st35.segC 2 [7,35,36] [(0,4)] (λ _ _ st38=>?_)
  obtain⟨v40,p40,h41⟩:=bs h36
  refine st38.cNA 4 0 (FnS.any (YT p40)) [7] [] (λ G39 _ _ _ st42=>wpList_nil (za ?_))
  refine st42.sqA [4] [(0,4)] (λ _ _ st43=>wp_ret (zd ?_))
  exact st43.rsF (s:=0) 4 rfl rfl rfl iI (bxr h41) zZ
 refine st35.segC 2 [1,6,39,40] [(0,4)] (λ _ _ st44=>?_)
 obtain⟨v46,p46,h47⟩:=bs h37
 refine st44.cNA 4 0 (Qc p46) [1,6] [] (λ G45 _ _ _ st48=>?_)
 refine st48.alA 5 Xx [1,6,41] [0] (λ b50 _ _ _ st50=>?_)
 have st51:=st50.gn
 refine st51.stA 8 5 FldS.id (tp rfl) [1,6] [0] (λ _ _ st53=>?_)
 have st54:=st53.frzX 5 (s:=8) rfl rfl [1,6] rfl [0] rfl
 have st55:=st54.gn
 refine wpList_nil (za (wp_seq ?_))
 refine st55.sqA [1,6,8,44] [(0,4)] (λ _ _ st56=>?_)
 refine st56.cs rfl h47 (λ _ h57=>wp_seq (wp_region_list ?_)) (λ _ h58=>wp_skip (za ?_))
 ·
  refine st56.segC 3 [47] [(0,4)] (λ _ _ st59=>?_)
  refine st59.sfA 0 4 ((PV.root.box rfl).fld owRunner.f5) (tp rfl) cI [] [] (λ _ st60=>wpList_nil (za ?_))
  refine st60.sqA [4] [(0,4)] (λ _ _ st61=>wp_ret (zd ?_))
  exact st61.rsF (s:=0) 4 rfl rfl rfl iI (bxr h57) zZ
 refine st56.hdA 0 4 ((PV.root.box rfl).fld owRunner.f2) [] (λ g62 A62 _ hA62 st62=>?_)
 refine st62.sqB (sP 4 (r:=by exact sc rfl (xLe rfl kL35 (tp rfl))<|segC)) [1,6,8,9] [(0,4)] (λ _ _ st63=>?_)
 have st64:=st63.ncf (s:=0) 4 rfl rfl iI [] rfl
 obtain⟨o65,p65,k65⟩:=bs h58
 refine zj (λ a w=>∃ M1 q65_0 q65_1 q65_2 q65_3 q65_4 q65_5,Sx (Frm.chg w0 G) 119 M M1 [q65_0,q65_1,q65_2,q65_3,q65_4,oneB q65_5] [(1,dt x1),(6,dt v17),(8,dptr v46.2),(9,dt (v46.1.mods.length:Int))] [(0,4,dnm oRun q65_4 ⟨o65⟩ (.pointer (some ⟨b0,0,none⟩)) [])] a w) ?_ ?_
 ·
  refine st64.opn (s:=8) rfl (λ b66 o66 c66 st66=>?_)
  refine st66.held (λ w=>CellsAt w b66 o66 c66) zH (λ _ st67=>?_)
  refine st67.tN 0 0 (st67.pkZ 8) (λ _ st68=>?_)
  refine st68.tN 1 0 (st68.pkZ 8) (λ _ st69=>?_)
  refine st69.tk (i:=2) rfl rfl (by decide +kernel) (by decide +kernel) (by decide +kernel) (λ _ _ _ h=>h) (st69.pkS (s:=8) rfl) (yNc rfl (st69.st.has 54 _ rfl)) (λ _ st70=>?_)
  refine st70.tk (i:=3) rfl rfl (by decide +kernel) (by decide +kernel) (by decide +kernel) (λ _ _ _ h=>h) (st70.pkS (s:=8) rfl) (yFa rfl Zh (st70.st.has 55 _ rfl)) (λ _ st71=>?_)
  refine st71.tM 5 1 (st71.pkZ 8) (λ _ st72=>?_)
  refine st72.tA 6 8 (λ _ st73=>?_) (ht:=kF71_0)
  refine st73.tF 7 8 59 Spec.fld0 (λ _ st74=>?_)
  refine st74.tA 8 8 (λ _ st75=>?_) (ht:=kF71_2)
  refine st75.tF 9 8 61 Spec.fld2 (λ _ st76=>?_)
  obtain⟨v86,p86,h93⟩:=bs p65
  refine aK2 4 10 ?_ ?_
  ·
   refine st76.hdA 0 4 ((PV.root.box rfl).fld owRunner.f2) [] (λ g94 A94 _ hA94 st94=>?_)
   refine st94.segC 1 [1,6,8,9,53,57,58,60,62] [(0,4)] (λ _ _ st95=>?_)
   refine aHN (st95.pkZ 8) ?_
   refine aK1 10 ?_
   refine st95.bldW (ow:=(owGModR oAtt)) (parts:=[(0,.tmp 58),(1,.tmp 60),(2,.tmp 62),(3,.const (.bool true))]) (ns:=[1,1,1,1,1,1]) (zs:=zpGMod) (x:=(⟨x1,v46.2.kind,v46.2.roots,true,false,[]⟩:GMod)) 1 [] rfl rfl rfl kB98 kC98 (by
 intro p hp;simp only[List.mem_cons,List.not_mem_nil,or_false] at hp
 rcases hp with rfl | rfl | rfl | rfl
 ·
  exact⟨by decide,Rep.len (α:=Str) (OpdR.cells (tp rfl) (λ s y hs=>st95.st.has s y hs))⟩
 ·
  exact⟨by decide,Rep.len (α:=Int) (OpdR.cells (tp rfl) (λ s y hs=>st95.st.has s y hs))⟩
 ·
  exact⟨by decide,Rep.len (α:=List Int) (OpdR.cells (tp rfl) (λ s y hs=>st95.st.has s y hs))⟩
 ·
  exact⟨by decide,rfl⟩) (((owGModR oAtt)).more (owGModR.mk (x:=(⟨x1,v46.2.kind,v46.2.roots,true,false,[]⟩:GMod)) (OpdR.cells (tp rfl) (λ s y hs=>st95.st.has s y hs)) (OpdR.cells (tp rfl) (λ s y hs=>st95.st.has s y hs)) (OpdR.cells (tp rfl) (λ s y hs=>st95.st.has s y hs)) (OpdR.cells cB (λ s y hs=>st95.st.has s y hs)) ⟨rfl,trivial⟩ (Ow.row_z _ _)) (λ b=>(λ hb=>hb.elim))) (by simp) [1,6,8,9,53,57] rfl [0] rfl rfl rfl (λ G96 _ _ st96=>?_)
   have st97:=st96.gs (Gs':=[oneB none,G96,oneB none,oneB none,G45,oneB none]) rfl
   refine aHN (st97.pkS (s:=8) rfl) ?_
   refine aK1 11 ?_
   refine st97.litW (oe:=(owGModR oAtt)) (opds:=[.tmp 63]) (xs:=[(⟨x1,v46.2.kind,v46.2.roots,true,false,[]⟩:GMod)]) 2 [1] rfl rfl kI35 kY35 rfl rfl (by decide) rfl (by decide) (Jj (js (st97.st.has 63 _ rfl)) (λ b hb=>⟨1,by simp,hb⟩)) (λ q hq=>by
 simp only[List.mem_cons,List.not_mem_nil,or_false] at hq
 subst hq
 exact Ow.len _ (js (st97.st.has 63 _ rfl))) (by simp) [1,6,8,9,53,57] rfl [0] rfl rfl rfl (by decide) (λ G98 _ _ _ st98=>?_)
   have st99:=st98.gs (Gs':=[oneB none,oneB none,G98,oneB none,G45,oneB none]) rfl
   refine aHN (st99.pkS (s:=8) rfl) ?_
   refine aK1 12 ?_
   refine st99.mvG (s:=57) (sb:=0) 4 3 ((PV.root.box rfl).fld owRunner.f2) (.head _) rfl (ym rfl rfl) rfl (by simp) (by simp) (by decide) rfl iI [1,6,8,9,53] rfl [64] rfl rfl rfl rfl (λ G101 H101 st101=>?_)
   have st102:=st101.gs (Gs':=[oneB none,oneB none,G98,H101,G101,oneB none]) rfl
   refine st102.appW 3 2 rfl rfl kE35 rfl rfl (by simp) (by simp) (by decide) iI iI p86 [1,6,8,9,53] rfl [0] rfl rfl rfl (λ _ _ _ _ st100=>?_)
   have st103:=st100.gn
   refine aHN (st103.pkZ 8) ?_
   refine aK1 13 ?_
   refine st103.segC 1 [1,6,8,9,66] [(0,4),(65,3)] (λ _ _ st104=>?_)
   refine aHN (st104.pkZ 8) ?_
   refine aK1 14 ?_
   refine st104.segC 1 [1,6,8,9,67] [(0,4),(65,3)] (λ _ _ st105=>?_)
   refine aHN (st105.pkZ 8) ?_
   refine aK1 15 ?_
   refine st105.shA 0 65 4 3 (tp rfl) [1,6,8,9] [] (λ _ _ st106=>?_)
   have st107:=st106.gn
   refine aHN (st107.pkZ 8) ?_
   refine aK0 ?_
   have st108:=st107.clo (s:=8) rfl
   refine za ?_
   cases h93
   exact fx
  ·
   refine st76.bldW (ow:=(owGModR oAtt)) (parts:=[(0,.tmp 58),(1,.tmp 60),(2,.tmp 62),(3,.const (.bool true))]) (ns:=[1,1,1,1,1,1]) (zs:=zpGMod) (x:=(⟨x1,v46.2.kind,v46.2.roots,true,false,[]⟩:GMod)) 1 [] rfl rfl rfl kB98 kC98 (by
 intro p hp;simp only[List.mem_cons,List.not_mem_nil,or_false] at hp
 rcases hp with rfl | rfl | rfl | rfl
 ·
  exact⟨by decide,Rep.len (α:=Str) (OpdR.cells (tp rfl) (λ s y hs=>st76.st.has s y hs))⟩
 ·
  exact⟨by decide,Rep.len (α:=Int) (OpdR.cells (tp rfl) (λ s y hs=>st76.st.has s y hs))⟩
 ·
  exact⟨by decide,Rep.len (α:=List Int) (OpdR.cells (tp rfl) (λ s y hs=>st76.st.has s y hs))⟩
 ·
  exact⟨by decide,rfl⟩) (((owGModR oAtt)).more (owGModR.mk (x:=(⟨x1,v46.2.kind,v46.2.roots,true,false,[]⟩:GMod)) (OpdR.cells (tp rfl) (λ s y hs=>st76.st.has s y hs)) (OpdR.cells (tp rfl) (λ s y hs=>st76.st.has s y hs)) (OpdR.cells (tp rfl) (λ s y hs=>st76.st.has s y hs)) (OpdR.cells cB (λ s y hs=>st76.st.has s y hs)) ⟨rfl,trivial⟩ (Ow.row_z _ _)) (λ b=>(λ hb=>hb.elim))) (by simp) [1,6,8,9,53,56] rfl [0] rfl rfl rfl (λ G109 _ _ st109=>?_)
   have st110:=st109.gs (Gs':=[oneB none,G109,oneB none,oneB none,G45,oneB none]) rfl
   refine aHN (st110.pkS (s:=8) rfl) ?_
   refine aK2 4 11 ?_ ?_
   ·
    refine st110.hdA 0 4 ((PV.root.box rfl).fld owRunner.f2) [63] (λ g111 A111 _ hA111 st111=>?_)
    refine st111.segC 1 [1,6,8,9,53,57] [(0,4),(63,1)] (λ _ _ st112=>?_)
    refine aHN (st112.pkZ 8) ?_
    refine aK1 11 ?_
    refine st112.litW (oe:=(owGModR oAtt)) (opds:=[.tmp 63]) (xs:=[(⟨x1,v46.2.kind,v46.2.roots,true,false,[]⟩:GMod)]) 2 [1] rfl rfl kI35 kY35 rfl rfl (by decide) rfl (by decide) (Jj (js (st112.st.has 63 _ rfl)) (λ b hb=>⟨1,by simp,hb⟩)) (λ q hq=>by
 simp only[List.mem_cons,List.not_mem_nil,or_false] at hq
 subst hq
 exact Ow.len _ (js (st112.st.has 63 _ rfl))) (by simp) [1,6,8,9,53,57] rfl [0] rfl rfl rfl (by decide) (λ G113 _ _ _ st113=>?_)
    have st114:=st113.gs (Gs':=[oneB none,oneB none,G113,oneB none,G45,oneB none]) rfl
    refine aHN (st114.pkS (s:=8) rfl) ?_
    refine aK1 12 ?_
    refine st114.mvG (s:=57) (sb:=0) 4 3 ((PV.root.box rfl).fld owRunner.f2) (.head _) rfl (ym rfl rfl) rfl (by simp) (by simp) (by decide) rfl iI [1,6,8,9,53] rfl [64] rfl rfl rfl rfl (λ G116 H116 st116=>?_)
    have st117:=st116.gs (Gs':=[oneB none,oneB none,G113,H116,G116,oneB none]) rfl
    refine st117.appW 3 2 rfl rfl kE35 rfl rfl (by simp) (by simp) (by decide) iI iI p86 [1,6,8,9,53] rfl [0] rfl rfl rfl (λ _ _ _ _ st115=>?_)
    have st118:=st115.gn
    refine aHN (st118.pkZ 8) ?_
    refine aK1 13 ?_
    refine st118.segC 1 [1,6,8,9,66] [(0,4),(65,3)] (λ _ _ st119=>?_)
    refine aHN (st119.pkZ 8) ?_
    refine aK1 14 ?_
    refine st119.segC 1 [1,6,8,9,67] [(0,4),(65,3)] (λ _ _ st120=>?_)
    refine aHN (st120.pkZ 8) ?_
    refine aK1 15 ?_
    refine st120.shA 0 65 4 3 (tp rfl) [1,6,8,9] [] (λ _ _ st121=>?_)
    have st122:=st121.gn
    refine aHN (st122.pkZ 8) ?_
    refine aK0 ?_
    have st123:=st122.clo (s:=8) rfl
    refine za ?_
    cases h93
    exact fx
   ·
    refine st110.litW (oe:=(owGModR oAtt)) (opds:=[.tmp 63]) (xs:=[(⟨x1,v46.2.kind,v46.2.roots,true,false,[]⟩:GMod)]) 2 [1] rfl rfl kI35 kY35 rfl rfl (by decide) rfl (by decide) (Jj (js (st110.st.has 63 _ rfl)) (λ b hb=>⟨1,by simp,hb⟩)) (λ q hq=>by
 simp only[List.mem_cons,List.not_mem_nil,or_false] at hq
 subst hq
 exact Ow.len _ (js (st110.st.has 63 _ rfl))) (by simp) [1,6,8,9,53,56] rfl [0] rfl rfl rfl (by decide) (λ G124 _ _ _ st124=>?_)
    have st125:=st124.gs (Gs':=[oneB none,oneB none,G124,oneB none,G45,oneB none]) rfl
    refine aHN (st125.pkS (s:=8) rfl) ?_
    refine aK1 4 ?_
    refine st125.hdA 0 4 ((PV.root.box rfl).fld owRunner.f2) [64] (λ g126 A126 _ hA126 st126=>?_)
    refine st126.segC 1 [1,6,8,9,53,57] [(0,4),(64,2)] (λ _ _ st127=>?_)
    refine aHN (st127.pkZ 8) ?_
    refine aK1 12 ?_
    refine st127.mvG (s:=57) (sb:=0) 4 3 ((PV.root.box rfl).fld owRunner.f2) (.head _) rfl (ym rfl rfl) rfl (by simp) (by simp) (by decide) rfl iI [1,6,8,9,53] rfl [64] rfl rfl rfl rfl (λ G129 H129 st129=>?_)
    have st130:=st129.gs (Gs':=[oneB none,oneB none,G124,H129,G129,oneB none]) rfl
    refine st130.appW 3 2 rfl rfl kE35 rfl rfl (by simp) (by simp) (by decide) iI iI p86 [1,6,8,9,53] rfl [0] rfl rfl rfl (λ _ _ _ _ st128=>?_)
    have st131:=st128.gn
    refine aHN (st131.pkZ 8) ?_
    refine aK1 13 ?_
    refine st131.segC 1 [1,6,8,9,66] [(0,4),(65,3)] (λ _ _ st132=>?_)
    refine aHN (st132.pkZ 8) ?_
    refine aK1 14 ?_
    refine st132.segC 1 [1,6,8,9,67] [(0,4),(65,3)] (λ _ _ st133=>?_)
    refine aHN (st133.pkZ 8) ?_
    refine aK1 15 ?_
    refine st133.shA 0 65 4 3 (tp rfl) [1,6,8,9] [] (λ _ _ st134=>?_)
    have st135:=st134.gn
    refine aHN (st135.pkZ 8) ?_
    refine aK0 ?_
    have st136:=st135.clo (s:=8) rfl
    refine za ?_
    cases h93
    exact fx
 rintro a65 w65 ⟨M65,q65_0,q65_1,q65_2,q65_3,q65_4,q65_5,st65⟩
 have h137:=k65
 refine wp_seq (wp_region_list ?_)
 refine st65.segC 2 [1,6,8,9,68,69] [(0,4)] (λ _ _ st138=>?_)
 obtain⟨v140,p140,h141⟩:=bs h137
 refine st138.cNA 4 0 (FnS.any (YT p140)) [1,6,8,9] [] (λ G139 _ _ _ st142=>wpList_nil (za ?_))
 obtain⟨o143,p143,k143⟩:=bs h141
 refine zj (λ a w=>∃ M1 q143_0 q143_1 q143_2 q143_3 q143_4 q143_5,Sx (Frm.chg w0 G) 119 M M1 [q143_0,q143_1,q143_2,q143_3,q143_4,oneB q143_5] [(1,dt x1),(6,dt v17),(9,dt (v46.1.mods.length:Int))] [(0,4,dnm oRun q143_4 ⟨o143⟩ (.pointer (some ⟨b0,0,none⟩)) [])] a w) ?_ ?_
 ·
  refine st142.sqA [1,6,8,9,73] [(0,4)] (λ _ _ st144=>?_)
  refine st144.cs rfl p143 (λ _ h145=>wp_region_list ?_) (λ _ h146=>wp_skip (za ?_))
  ·
   refine st144.segC 5 [1,6,9,74,75,76,78] [(0,4)] (λ _ _ st147=>?_)
   obtain⟨v149,p149,h150⟩:=bs h145
   refine st147.cNA 4 0 (spec_bodyOf_w p149) [1,6,9,74,75] [] (λ G148 _ _ _ st151=>?_)
   obtain⟨v153,p153,h154⟩:=bs h150
   refine st151.cNA 4 0 (FnS.any (hR.spec_runBody p153)) [1,6,9] [] (λ G152 _ _ _ st155=>wpList_nil (za ?_))
   cases h154
   exact fx
  cases h146
  exact fx
 rintro a143 w143 ⟨M143,q143_0,q143_1,q143_2,q143_3,q143_4,q143_5,st143⟩
 have h156:=k143
 refine wp_seq ?_
 refine st143.sqB (sP 3 (r:=by exact sc rfl (xLf (sb:=0) ((PV.root.box rfl).fld owRunner.f5) rfl kT3 (tp rfl) rfl)<|segC)) [1,6,9,85] [(0,4)] (λ _ _ st157=>?_)
 refine st157.cs rfl h156 (λ _ h158=>wp_seq (wp_region_list ?_)) (λ _ h159=>wp_skip (za (wp_seq (wp_region_list ?_))))
 ·
  obtain⟨v161,p161,h162⟩:=bs h158
  refine st157.hdA 0 4 ((PV.root.box rfl).fld owRunner.f2) [] (λ g160 A160 _ hA160 st160=>?_)
  refine st160.segB 7 (sP 5 (r:=by exact sc rfl (xIa (g:=g160) rfl kS35 (tp rfl) (tp rfl) rfl (λ h=>hA160 h rfl) p161)<|segC)) [1,92] [(0,4)] (λ _ _ st163=>?_)
  refine st163.sfA 0 4 ((((PV.root.box rfl).fld owRunner.f2).row (.head _) rfl (λ h=>hA160 h rfl) p161).fld owGModR.f3) (tp rfl) cB [1] [] (λ _ st164=>wpList_nil (za (wp_seq (wp_region_list ?_))))
  refine st164.segC 2 [93,94] [(0,4)] (λ _ _ st165=>?_)
  obtain⟨v167,p167,h168⟩:=bs h162
  refine st165.cNA 4 0 (FnS.any (YT p167)) [] [] (λ G166 _ _ _ st169=>wpList_nil (za ?_))
  refine st169.sqA [4] [(0,4)] (λ _ _ st170=>wp_ret (zd ?_))
  exact st170.rsF (s:=0) 4 rfl rfl rfl iI (bxr h168) zZ
 obtain⟨v172,p172,h173⟩:=bs h159
 refine st157.hdA 0 4 ((PV.root.box rfl).fld owRunner.f2) [] (λ g171 A171 _ hA171 st171=>?_)
 refine st171.segB 7 (sP 5 (r:=by exact sc rfl (xIa (g:=g171) rfl kS35 (tp rfl) (tp rfl) rfl (λ h=>hA171 h rfl) p172)<|segC)) [1,6,9,102] [(0,4)] (λ _ _ st174=>?_)
 refine st174.sfA 0 4 ((((PV.root.box rfl).fld owRunner.f2).row (.head _) rfl (λ h=>hA171 h rfl) p172).fld owGModR.f4) (tp rfl) cB [1,6,9] [] (λ _ st175=>wpList_nil (za (wp_seq (wp_region_list ?_))))
 refine st175.segC 2 [1,6,9,103,104] [(0,4)] (λ _ _ st176=>?_)
 obtain⟨v178,p178,h179⟩:=bs h173
 refine st176.cNA 4 0 (FnS.any (YT p178)) [1,6,9] [] (λ G177 _ _ _ st180=>wpList_nil (za ?_))
 obtain⟨o181,p181,k181⟩:=bs h179
 refine zj (λ a w=>∃ M1 q181_0 q181_1 q181_2 q181_3 q181_4 q181_5,Sx (Frm.chg w0 G) 119 M M1 [q181_0,q181_1,q181_2,q181_3,q181_4,oneB q181_5] [(9,dt (v46.1.mods.length:Int))] [(0,4,dnm oRun q181_4 ⟨o181⟩ (.pointer (some ⟨b0,0,none⟩)) [])] a w) ?_ ?_
 ·
  refine wp_seq (wp_region_list ?_)
  refine st180.segC 2 [1,9,106,107] [(0,4)] (λ _ _ st182=>?_)
  obtain⟨v184,p184,h185⟩:=bs p181
  refine st182.cNA 4 0 (qk p184) [1,9] [] (λ G183 _ _ _ st186=>?_)
  refine st186.segA 1 [1,9,10] [(0,4)] (λ _ _ st187=>wpList_nil (za ?_))
  refine st187.sqA [1,9,10,110] [(0,4)] (λ _ _ st188=>?_)
  refine st188.cs rfl h185 (λ _ h189=>wp_region_list ?_) (λ _ h190=>wp_skip (za ?_))
  ·
   obtain⟨v191,p191,h192⟩:=bs h189
   refine st188.segB 6 (sP 3 (r:=by exact sc rfl (oK (zbu p191))<|sP 1 (r:=by exact sc rfl (ZX rfl cI (tp rfl))<|.nil))) [9,111,112,114,116] [(0,4)] (λ _ _ st193=>?_)
   obtain⟨v195,p195,h196⟩:=bs h192
   refine st193.cNA 4 0 (FnS.any (qV p195)) [9] [] (λ G194 _ _ _ st197=>wpList_nil (za ?_))
   cases h196
   exact fx
  cases h190
  exact fx
 rintro a181 w181 ⟨M181,q181_0,q181_1,q181_2,q181_3,q181_4,q181_5,st181⟩
 have h198:=k181
 refine st181.sqA [4] [(0,4)] (λ _ _ st199=>wp_ret ?_)
 exact st199.rsF (s:=0) 4 rfl rfl rfl iI (bxr h198) zZ
open Go.RowKit Tryz
set_option maxRecDepth 10000
set_option maxHeartbeats 1600000
def scc:Nat->Rec
 | 0=>Rec.no
 | n+1=>⟨Yb (scc n),Y6 (scc n),XK (scc n),XJ (scc n),XI (scc n),XH (scc n),wr (scc n),wJ (scc n),yg (scc n)⟩
theorem Wl:∀ n,(scc n).ok
 | 0=>Rec.no_ok
 | n+1=>⟨(λ h=>zay (Wl n) h),(λ h=>zbK (Wl n) h),(λ h=>zb8 (Wl n) h),(λ h=>zb7 (Wl n) h),(λ h=>zb6 (Wl n) h),(λ h=>zb5 (Wl n) h),(λ h=>Jm (Wl n) h),(λ h=>JZ (Wl n) h),(λ h=>zav (Wl n) h)⟩
open Go.RowKit Tryz
set_option maxRecDepth 10000
set_option maxHeartbeats 1600000
end Go.Proofs.YtpmkkijamfgaeaaGreatDoor
