import Derived.Test.YtpmkkijamfgaeaaGreatDoorRB
import Derived.Test.YtpmkkijamfgaeaaGreatDoorRO
import Derived.Test.YtpmkkijamfgaeaaGreatDoorRKb
namespace Go.Proofs.YtpmkkijamfgaeaaGreatDoor
open Go.RowKit Tryz
attribute [local irreducible] OpRel OpdR
set_option maxRecDepth 10000
set_option maxHeartbeats 1600000
theorem kN128:fnB prog 128=true:=by kernel_rfl
instance iF25_0OxH:FldO prog 25 0 0:=⟨qg⟩
instance iF51_0OxH:FldO prog 51 0 0:=⟨kF51_0⟩
instance iF51_4OxH:FldO prog 51 4 4:=⟨kF51_4⟩
instance iF51_5OxH:FldO prog 51 5 5:=⟨kF51_5⟩
def ZC(x0:Reader):Option (Reader×Tree):=
(Zc x0).bind λ v5=>
Option.bind (α:=Reader×Tree) (if(cmpI .gtr (v5.2.files.length:Int) (0:Int))=true then((zC v5.1 (24:Int)).bind λ v20=>
if(cmpI .eql v20.2 (0:Int))=true then((atI v5.2.files (0:Int)).bind λ v30=>
(appO 80 v5.2.files ([v30]:List File)).bind λ v38=>
some (v20.1,(⟨v38⟩:Tree)))
else(if(cmpI .eql v20.2 (1:Int))=true then((yb v20.1 ([(-1:Int),(3:Int)]:List Int)).bind λ v59=>
(atI v5.2.files (0:Int)).bind λ v62=>
some (v59.1,(⟨(v5.2.files.set (0:Int).toNat ({ v62 with root:=v59.2 }))⟩:Tree)))
else(if(cmpI .eql v20.2 (2:Int))=true then((yb v20.1 ([(-1:Int),(100:Int)]:List Int)).bind λ v90=>
(atI v5.2.files (0:Int)).bind λ v93=>
some (v90.1,(⟨(v5.2.files.set (0:Int).toNat ({ v93 with stamp:=v90.2 }))⟩:Tree)))
else(if(cmpI .eql v20.2 (3:Int))=true then((atI v5.2.files (0:Int)).bind λ v121=>
(appO 56 v121.body ([(⟨(9:Int),⟨[]⟩,0,⟨[]⟩,0⟩:Stmt)]:List Stmt)).bind λ v132=>
(atI v5.2.files (0:Int)).bind λ _v135=>
some (v20.1,(⟨(v5.2.files.set (0:Int).toNat ({ v121 with body:=v132 }))⟩:Tree)))
else(some (v20.1,v5.2))))))
else(some (v5.1,v5.2))) λ o12=>
some (o12.1,o12.2)
theorem zc6{x0:Reader}{r:Reader×Tree}(h:ZC x0=some r):FnS prog 74 (Ow.box (Ow.frz (α:=Reader))) ⟨x0⟩ [] ⟨r.1⟩ (.ow (owTree (Ow.row 51 (Ow.frz (α:=File)))) r.2):=by
 unfold ZC at h
 refine fnSB (fn:=f74) 4 9 func74 rfl (oD rfl) rfl (λ M G w0 b0 _ st0=>wp_seq (wp_region_list ?_))
 refine st0.alcW (ow:=(owTree (Ow.row 51 (Ow.frz (α:=File))))) 7 rfl rfl kZ25 (owTree.z Ow.row_z) (by simp) [] rfl [0] rfl rfl (λ b1 M1 _ _ st1=>?_)
 have st2:=st1.gn
 refine wpList_nil (za (wp_seq (wp_region_list ?_)))
 refine st2.segC 1 [4] [(0,4),(2,7)] (λ _ _ st3=>?_)
 obtain⟨v5,p5,h6⟩:=bs h
 refine st3.cSO (l:=[]) 4 0 (st3.bkN (s:=0) rfl iI) rfl rfl kN128 (Eq.trans (st3.st.has 4 _ rfl) (st3.st.has 0 _ rfl).1.symm) (by simp) (by simp) (by decide) .nil (zcM p5) [] rfl [2] rfl rfl rfl rfl (by decide) (λ _ H4 _ _ _ st4=>?_)
 have st7:=st4.gn
 refine st7.alcW (ow:=(owTree (Ow.row 51 (owFile (Ow.row 74 (Ow.frz (α:=Stmt))))))) 8 rfl rfl kZ25 (owTree.z Ow.row_z) (by simp) [] rfl [0,2,5] rfl rfl (λ b8 _ _ _ st8=>?_)
 have st9:=st8.gn
 refine st9.stO (sb:=3) (tv:=5) 8 0 (PV.root.box rfl) rfl rfl rfl kT25 (by simp) (by simp) (by decide) (zR rfl) rfl rfl rfl iI iI [] rfl [0,2] rfl rfl rfl (λ G10 _ st10=>?_)
 have st11:=st10.gn
 refine wpList_nil (za ?_)
 obtain⟨o12,p12,k12⟩:=bs h6
 refine zi (λ a w=>∃ M1 q12_0 q12_1 q12_2 q12_3 q12_4 q12_5 q12_6 q12_7 q12_8,Sx (Frm.chg w0 G) 56 M M1 [q12_0,q12_1,q12_2,q12_3,q12_4,q12_5,q12_6,q12_7,q12_8] [] [(0,4,dnm (Ow.box (Ow.frz (α:=Reader))) q12_4 ⟨o12.1⟩ (.pointer (some ⟨b0,0,none⟩)) []),(2,7,dow (Ow.box (owTree (Ow.row 51 (Ow.frz (α:=File))))) q12_7 ⟨JI⟩),(3,8,dow (Ow.box (owTree (Ow.row 51 (Ow.frz (α:=File))))) q12_8 ⟨o12.2⟩)] a w) ?_ ?_
 ·
  refine st11.hdA 3 8 ((PV.root.box rfl).fld owTree.f0) [0,2] (λ g13 A13 _ hA13 st13=>?_)
  refine st13.sqB (sc rfl (xFa rfl qg (zR rfl))<|sc rfl (xLc (sb:=3) (.head _) rfl rfl rfl kT23 (tp rfl) rfl)<|sc rfl (xLe rfl kL23 (tp rfl))<|segC) [9] [(0,4),(2,7),(3,8)] (λ _ _ st14=>?_)
  have st15:=st14.ncf (s:=3) 8 rfl rfl iI [0,2] rfl
  refine st15.cs rfl p12 (λ _ h16=>wp_seq (wp_region_list ?_)) (λ _ h17=>?_)
  ·
   refine st15.segC 1 [10] [(0,4),(2,7),(3,8)] (λ _ _ st18=>?_)
   obtain⟨v20,p20,h21⟩:=bs h16
   refine st18.cNA 4 0 (zF p20) [] [2,3] (λ G19 _ _ _ st22=>wpList_nil (za (wp_block ?_)))
   refine st22.sqA [11,12] [(0,4),(2,7),(3,8)] (λ _ _ st23=>?_)
   refine st23.cs rfl h21 (λ _ h24=>?_) (λ _ h25=>?_)
   ·
    have st26:=st23.unm (s:=3) 8 rfl rfl iI [0,2] rfl
    refine st26.thin (s:=3) (o2:=(Ow.box (owTree (Ow.row 51 (Ow.frz (α:=File)))))) 8 (YG (YF YE)) rfl rfl (by simp) iI [11,12] rfl [0,2] rfl rfl (λ _ _ st27=>?_)
    obtain⟨v30,p30,h31⟩:=bs h24
    refine st27.nmB (s:=3) 8 rfl rfl iI [0,2] rfl (λ b28 st28=>?_)
    refine st28.hdA 3 8 ((PV.root.box rfl).fld owTree.f0) [0,2] (λ g29 A29 _ hA29 st29=>?_)
    refine st29.drnA (D:=[_,_,_,_,_,_,_]) zJ 7 [[(3,nS)],[(14,0),(3,nS)],[(3,nS)],[(16,2),(3,nS)],[(17,3)],[(18,4),(3,nS)],[(19,5)],[(15,1),(20,6)],[(3,nS)],[(22,8),(21,7)]] [15,20] [(0,4),(2,7),(3,8)] (λ _ _ st32=>?_) (hs:=rc rfl rfl (xFa rfl qg (zR rfl))<|rc rfl rfl (xLc (sb:=3) (.head _) rfl rfl rfl kT23 (tp rfl) rfl)<|rc rfl rfl (xFa rfl qg (zR rfl))<|rc rfl rfl (xLc (sb:=3) (.head _) rfl rfl rfl kT23 (tp rfl) rfl)<|rc rfl rfl (xIa (g:=g29) rfl kS23 (tp rfl) cI rfl (λ h=>hA29 h rfl) p30)<|rc rfl rfl (xLf (sb:=3) (((PV.root.box rfl).fld owTree.f0).row (.head _) rfl (λ h=>hA29 h rfl) p30) rfl kT51 (tp rfl) rfl)<|regA)
    refine st32.mvG (s:=15) (sb:=3) 8 1 ((PV.root.box rfl).fld owTree.f0) (.head _) rfl (wi rfl rfl) rfl (by simp) (by simp) (by decide) rfl iI [20] rfl [0,2] rfl rfl rfl rfl (λ G34 H34 st34=>?_)
    have st35:=st34.gs (Gs':=[oneB none,H34,oneB none,oneB none,G19,oneB none,oneB none,(oneB (some b1)),G34]) rfl
    refine st35.tipR (s:=15) 1 rfl rfl (by simp) iI [0,2,3] rfl rfl (λ g36 st36=>?_)
    obtain⟨v38,p38,h39⟩:=bs h31
    refine st36.apA 1 yS p38 [] [0,2,3] (λ g37 _ _ _ st37=>?_)
    have st40:=st37.gn
    refine st40.segB 1 (sc rfl (xFa rfl qg (opd_hl rfl))<|.nil) [22] [(0,4),(2,7),(3,8),(21,1)] (λ _ _ st41=>?_)
    have st43:=st41.tipW (s:=21) 1 rfl rfl iI [0,2,3] rfl
    refine st43.shA 3 21 8 1 (tp rfl) [] [0,2] (λ _ _ st42=>?_)
    have st44:=st42.gn
    refine wpList_nil (zf ?_)
    have st45:=st44.unm (s:=2) 7 rfl rfl iI [0,3] rfl
    have st46:=st45.unm (s:=3) 8 rfl rfl iI [0,2] rfl
    refine za ?_
    cases h39
    exact fx
   refine st23.sqA [11,23] [(0,4),(2,7),(3,8)] (λ _ _ st48=>?_)
   refine st48.cs rfl h25 (λ _ h49=>?_) (λ _ h50=>?_)
   ·
    refine st48.hdA 3 8 ((PV.root.box rfl).fld owTree.f0) [0,2] (λ g51 A51 c51 hA51 st51=>?_)
    refine st51.held (λ w=>w.cell? ⟨b8,0,none⟩=some (.slice A51 (v5.2.files.length) c51)) zJ (λ _ st52=>?_)
    refine st52.tk (i:=0) rfl rfl (by decide +kernel) (by decide +kernel) (by decide +kernel) (λ _ _ _ h=>h) (st52.cellS (sb:=3) rfl (.head _) rfl rfl) (yFa rfl qg (st52.st.has 3 _ rfl).1) (λ _ st53=>?_)
    refine st53.tk (i:=1) rfl rfl (by decide +kernel) (by decide +kernel) (by decide +kernel) (λ _ _ _ h=>h) (st53.cellS (sb:=3) rfl (.head _) rfl rfl) (yLd rfl kT23 (st53.st.has 25 _ rfl) (λ _ h=>h)) (λ _ st54=>?_)
    refine st54.tN 2 0 (st54.cellS (sb:=3) rfl (.head _) rfl rfl) (λ _ st55=>?_)
    refine st55.mvN (s:=26) (sb:=3) 8 2 ((PV.root.box rfl).fld owTree.f0) (.head _) rfl (wi rfl rfl) rfl rfl (by simp) (by simp) (by decide) rfl iI [11,23,25,27] rfl [0,2] rfl rfl rfl rfl (by decide) (λ G56 H56 st56=>?_)
    obtain⟨v59,p59,v62,p62,h67⟩:=bsB h49
    refine aK1 3 ?_
    refine st56.segB 1 (sc rfl (yq (opds:=[.const (.int .i64 (-1)),.const (.int .i64 3)]) rfl kS26 kY26 rfl rfl (by decide) (.cons cI (.cons cI .nil)))<|.nil) [27,28] [(0,4),(2,7),(3,8),(26,2)] (λ _ _ st68=>?_)
    refine aHN (st68.hkS (sb:=3) rfl) ?_
    refine aK1 4 ?_
    refine st68.cNA 4 0 (xw p59) [] [2,3,26] (λ G69 _ _ _ st70=>?_)
    refine aHN (st70.hkS (sb:=3) rfl) ?_
    refine aK1 5 ?_
    refine st70.segB 1 (sc rfl (xIaN rfl kS23 rfl cI (λ h=>hA51 h rfl) p62)<|.nil) [29,30] [(0,4),(2,7),(3,8),(26,2)] (λ _ _ st71=>?_)
    refine aHN (st71.hkS (sb:=3) rfl) ?_
    refine aK1 6 ?_
    refine st71.segC 1 [29,31] [(0,4),(2,7),(3,8),(26,2)] (λ _ _ st72=>?_)
    refine aHN (st72.hkS (sb:=3) rfl) ?_
    refine aK1 7 ?_
    refine st72.sfA 26 2 ((PV.root.row rfl (λ h=>hA51 h rfl) p62).fld owFile.f0) (tp rfl) (tp rfl) [] [0,2,3] (λ _ st73=>?_)
    refine aHN (st73.hkS (sb:=3) rfl) ?_
    refine aK0 ?_
    refine st73.stG (s:=26) (sb:=3) 8 2 rfl (by simp) (by simp) (by decide) rfl rfl iI iI [] rfl [0,2] rfl rfl rfl (λ _ st74=>?_)
    have st75:=st74.gn
    refine zf ?_
    have st76:=st75.unm (s:=2) 7 rfl rfl iI [0,3] rfl
    have st77:=st76.unm (s:=3) 8 rfl rfl iI [0,2] rfl
    refine st77.thin (s:=3) (o2:=(Ow.box (owTree (Ow.row 51 (Ow.frz (α:=File)))))) 8 (YG (YF YE)) rfl rfl (by simp) iI [] rfl [0,2] rfl rfl (λ _ _ st78=>za ?_)
    cases h67
    exact fx
   refine st48.sqA [11,32] [(0,4),(2,7),(3,8)] (λ _ _ st79=>?_)
   refine st79.cs rfl h50 (λ _ h80=>?_) (λ _ h81=>?_)
   ·
    refine st79.hdA 3 8 ((PV.root.box rfl).fld owTree.f0) [0,2] (λ g82 A82 c82 hA82 st82=>?_)
    refine st82.held (λ w=>w.cell? ⟨b8,0,none⟩=some (.slice A82 (v5.2.files.length) c82)) zJ (λ _ st83=>?_)
    refine st83.tk (i:=0) rfl rfl (by decide +kernel) (by decide +kernel) (by decide +kernel) (λ _ _ _ h=>h) (st83.cellS (sb:=3) rfl (.head _) rfl rfl) (yFa rfl qg (st83.st.has 3 _ rfl).1) (λ _ st84=>?_)
    refine st84.tk (i:=1) rfl rfl (by decide +kernel) (by decide +kernel) (by decide +kernel) (λ _ _ _ h=>h) (st84.cellS (sb:=3) rfl (.head _) rfl rfl) (yLd rfl kT23 (st84.st.has 34 _ rfl) (λ _ h=>h)) (λ _ st85=>?_)
    refine st85.tN 2 0 (st85.cellS (sb:=3) rfl (.head _) rfl rfl) (λ _ st86=>?_)
    refine st86.mvN (s:=35) (sb:=3) 8 3 ((PV.root.box rfl).fld owTree.f0) (.head _) rfl (wi rfl rfl) rfl rfl (by simp) (by simp) (by decide) rfl iI [11,32,34,36] rfl [0,2] rfl rfl rfl rfl (by decide) (λ G87 H87 st87=>?_)
    obtain⟨v90,p90,v93,p93,h98⟩:=bsB h80
    refine aK1 3 ?_
    refine st87.segB 1 (sc rfl (yq (opds:=[.const (.int .i64 (-1)),.const (.int .i64 100)]) rfl kS26 kY26 rfl rfl (by decide) (.cons cI (.cons cI .nil)))<|.nil) [36,37] [(0,4),(2,7),(3,8),(35,3)] (λ _ _ st99=>?_)
    refine aHN (st99.hkS (sb:=3) rfl) ?_
    refine aK1 4 ?_
    refine st99.cNA 4 0 (xw p90) [] [2,3,35] (λ G100 _ _ _ st101=>?_)
    refine aHN (st101.hkS (sb:=3) rfl) ?_
    refine aK1 5 ?_
    refine st101.segB 1 (sc rfl (xIaN rfl kS23 rfl cI (λ h=>hA82 h rfl) p93)<|.nil) [38,39] [(0,4),(2,7),(3,8),(35,3)] (λ _ _ st102=>?_)
    refine aHN (st102.hkS (sb:=3) rfl) ?_
    refine aK1 6 ?_
    refine st102.segC 1 [38,40] [(0,4),(2,7),(3,8),(35,3)] (λ _ _ st103=>?_)
    refine aHN (st103.hkS (sb:=3) rfl) ?_
    refine aK1 7 ?_
    refine st103.sfA 35 3 ((PV.root.row rfl (λ h=>hA82 h rfl) p93).fld owFile.f4) (tp rfl) (tp rfl) [] [0,2,3] (λ _ st104=>?_)
    refine aHN (st104.hkS (sb:=3) rfl) ?_
    refine aK0 ?_
    refine st104.stG (s:=35) (sb:=3) 8 3 rfl (by simp) (by simp) (by decide) rfl rfl iI iI [] rfl [0,2] rfl rfl rfl (λ _ st105=>?_)
    have st106:=st105.gn
    refine zf ?_
    have st107:=st106.unm (s:=2) 7 rfl rfl iI [0,3] rfl
    have st108:=st107.unm (s:=3) 8 rfl rfl iI [0,2] rfl
    refine st108.thin (s:=3) (o2:=(Ow.box (owTree (Ow.row 51 (Ow.frz (α:=File)))))) 8 (YG (YF YE)) rfl rfl (by simp) iI [] rfl [0,2] rfl rfl (λ _ _ st109=>za ?_)
    cases h98
    exact fx
   refine st79.sqA [41] [(0,4),(2,7),(3,8)] (λ _ _ st110=>?_)
   refine st110.cs rfl h81 (λ _ h111=>?_) (λ _ h112=>?_)
   ·
    refine st110.hdA 3 8 ((PV.root.box rfl).fld owTree.f0) [0,2] (λ g113 A113 c113 hA113 st113=>?_)
    refine st113.held (λ w=>w.cell? ⟨b8,0,none⟩=some (.slice A113 (v5.2.files.length) c113)) zJ (λ _ st114=>?_)
    refine st114.tk (i:=0) rfl rfl (by decide +kernel) (by decide +kernel) (by decide +kernel) (λ _ _ _ h=>h) (st114.cellS (sb:=3) rfl (.head _) rfl rfl) (yFa rfl qg (st114.st.has 3 _ rfl).1) (λ _ st115=>?_)
    refine st115.tk (i:=1) rfl rfl (by decide +kernel) (by decide +kernel) (by decide +kernel) (λ _ _ _ h=>h) (st115.cellS (sb:=3) rfl (.head _) rfl rfl) (yLd rfl kT23 (st115.st.has 43 _ rfl) (λ _ h=>h)) (λ _ st116=>?_)
    refine st116.tk (i:=2) rfl rfl (by decide +kernel) (by decide +kernel) (by decide +kernel) (λ _ _ _ h=>h) (st116.cellS (sb:=3) rfl (.head _) rfl rfl) (yFa rfl qg (st116.st.has 3 _ rfl).1) (λ _ st117=>?_)
    refine st117.tk (i:=3) rfl rfl (by decide +kernel) (by decide +kernel) (by decide +kernel) (λ _ _ _ h=>h) (st117.cellS (sb:=3) rfl (.head _) rfl rfl) (yLd rfl kT23 (st117.st.has 45 _ rfl) (λ _ h=>h)) (λ _ st118=>?_)
    refine st118.tkB (i:=7) (parts:=[(0,.const (.int .i64 9))]) (ns:=[1,1,1,1,1]) (zs:=zao) rfl rfl (by decide +kernel) (by decide +kernel) (by decide +kernel) (λ _ _ _ _ h=>h) (st118.cellS (sb:=3) rfl (.head _) rfl rfl) rfl rfl kB74 kC74 (λ w a hl=>by
 intro p hp;simp only[List.mem_cons,List.not_mem_nil,or_false] at hp
 rcases hp with rfl
 ·
  exact⟨by decide,rfl⟩) (λ w a hl=>Stmt.parts (x:=(⟨(9:Int),⟨[]⟩,0,⟨[]⟩,0⟩:Stmt)) (OpdR.cells cI hl) jS ⟨rfl,trivial⟩ jS ⟨rfl,trivial⟩) (λ _ st119=>?_)
    refine st119.mvN (s:=46) (sb:=3) 8 5 ((PV.root.box rfl).fld owTree.f0) (.head _) rfl (wi rfl rfl) rfl rfl (by simp) (by simp) (by decide) rfl iI [41,43,44,45,50] rfl [0,2] rfl rfl rfl rfl (by decide) (λ G120 H120 st120=>?_)
    obtain⟨v121,p121,v132,p132,v135,p135,h143⟩:=bsC h111
    refine aK2 4 8 ?_ ?_
    ·
     refine st120.segB 1 (sc rfl (xIaN rfl kS23 rfl cI (λ h=>hA113 h rfl) p121)<|.nil) [44,47,50] [(0,4),(2,7),(3,8),(46,5)] (λ _ _ st144=>?_)
     refine aHN (st144.hkS (sb:=3) rfl) ?_
     refine aK2 5 8 ?_ ?_
     ·
      refine st144.segC 1 [44,48,50] [(0,4),(2,7),(3,8),(46,5)] (λ _ _ st145=>?_)
      refine aHN (st145.hkS (sb:=3) rfl) ?_
      refine aK2 6 8 ?_ ?_
      ·
       refine st145.hdA 46 5 ((PV.root.row rfl (λ h=>hA113 h rfl) p121).fld owFile.f5) [0,2,3] (λ g146 A146 _ hA146 st146=>?_)
       refine st146.segB 1 (sc rfl (xLc (sb:=46) (.head _) rfl rfl rfl kT49 (tp rfl) rfl)<|.nil) [44,49,50] [(0,4),(2,7),(3,8),(46,5)] (λ _ _ st147=>?_)
       refine aHN (st147.hkS (sb:=3) rfl) ?_
       refine aK1 8 ?_
       refine st147.segC 1 [44,49,51] [(0,4),(2,7),(3,8),(46,5)] (λ _ _ st148=>?_)
       refine aHN (st148.hkS (sb:=3) rfl) ?_
       refine aK1 9 ?_
       refine st148.mvG (s:=49) (sb:=46) 5 6 ((PV.root.row rfl (λ h=>hA113 h rfl) p121).fld owFile.f5) (.head _) rfl (wi rfl rfl) rfl (by simp) (by simp) (by decide) rfl iI [44,51] rfl [0,2,3] rfl rfl rfl rfl (λ G150 H150 st150=>?_)
       have st151:=st150.gs (Gs':=[oneB none,oneB none,oneB none,oneB none,G19,G150,H150,(oneB (some b1)),G120]) rfl
       refine st151.tipR (s:=49) 6 rfl rfl (by simp) iI [0,2,3,46] rfl rfl (λ g152 st152=>?_)
       refine st152.apA 6 yS p132 [44] [0,2,3,46] (λ g153 _ _ _ st153=>?_)
       have st154:=st153.gn
       refine aHN (st154.hkS (sb:=3) rfl) ?_
       refine aK1 10 ?_
       refine st154.segB 1 (sc rfl (xIa (g:=g113) rfl kS23 (tp rfl) cI rfl (λ h=>hA113 h rfl) p135)<|.nil) [53] [(0,4),(2,7),(3,8),(46,5),(52,6)] (λ _ _ st155=>?_)
       refine aHN (st155.hkS (sb:=3) rfl) ?_
       refine aK1 11 ?_
       refine st155.segC 1 [54] [(0,4),(2,7),(3,8),(46,5),(52,6)] (λ _ _ st156=>?_)
       refine aHN (st156.hkS (sb:=3) rfl) ?_
       refine aK1 12 ?_
       have st158:=st156.tipW (s:=52) 6 rfl rfl iI [0,2,3,46] rfl
       refine st158.shA 46 52 5 6 (tp rfl) [] [0,2,3] (λ _ _ st157=>?_)
       have st159:=st157.gn
       refine aHN (st159.hkS (sb:=3) rfl) ?_
       refine aK0 ?_
       refine st159.stG (s:=46) (sb:=3) 8 5 rfl (by simp) (by simp) (by decide) rfl rfl iI iI [] rfl [0,2] rfl rfl rfl (λ _ st160=>?_)
       have st161:=st160.gn
       refine zf ?_
       have st162:=st161.unm (s:=2) 7 rfl rfl iI [0,3] rfl
       have st163:=st162.unm (s:=3) 8 rfl rfl iI [0,2] rfl
       refine st163.thin (s:=3) (o2:=(Ow.box (owTree (Ow.row 51 (Ow.frz (α:=File)))))) 8 (YG (YF YE)) rfl rfl (by simp) iI [] rfl [0,2] rfl rfl (λ _ _ st164=>za ?_)
       cases h143
       exact fx
      ·
       refine st145.segC 1 [44,48,51] [(0,4),(2,7),(3,8),(46,5)] (λ _ _ st165=>?_)
       refine aHN (st165.hkS (sb:=3) rfl) ?_
       refine aK1 6 ?_
       refine st165.hdA 46 5 ((PV.root.row rfl (λ h=>hA113 h rfl) p121).fld owFile.f5) [0,2,3] (λ g166 A166 _ hA166 st166=>?_)
       refine st166.segB 1 (sc rfl (xLc (sb:=46) (.head _) rfl rfl rfl kT49 (tp rfl) rfl)<|.nil) [44,49,51] [(0,4),(2,7),(3,8),(46,5)] (λ _ _ st167=>?_)
       refine aHN (st167.hkS (sb:=3) rfl) ?_
       refine aK1 9 ?_
       refine st167.mvG (s:=49) (sb:=46) 5 6 ((PV.root.row rfl (λ h=>hA113 h rfl) p121).fld owFile.f5) (.head _) rfl (wi rfl rfl) rfl (by simp) (by simp) (by decide) rfl iI [44,51] rfl [0,2,3] rfl rfl rfl rfl (λ G169 H169 st169=>?_)
       have st170:=st169.gs (Gs':=[oneB none,oneB none,oneB none,oneB none,G19,G169,H169,(oneB (some b1)),G120]) rfl
       refine st170.tipR (s:=49) 6 rfl rfl (by simp) iI [0,2,3,46] rfl rfl (λ g171 st171=>?_)
       refine st171.apA 6 yS p132 [44] [0,2,3,46] (λ g172 _ _ _ st172=>?_)
       have st173:=st172.gn
       refine aHN (st173.hkS (sb:=3) rfl) ?_
       refine aK1 10 ?_
       refine st173.segB 1 (sc rfl (xIa (g:=g113) rfl kS23 (tp rfl) cI rfl (λ h=>hA113 h rfl) p135)<|.nil) [53] [(0,4),(2,7),(3,8),(46,5),(52,6)] (λ _ _ st174=>?_)
       refine aHN (st174.hkS (sb:=3) rfl) ?_
       refine aK1 11 ?_
       refine st174.segC 1 [54] [(0,4),(2,7),(3,8),(46,5),(52,6)] (λ _ _ st175=>?_)
       refine aHN (st175.hkS (sb:=3) rfl) ?_
       refine aK1 12 ?_
       have st177:=st175.tipW (s:=52) 6 rfl rfl iI [0,2,3,46] rfl
       refine st177.shA 46 52 5 6 (tp rfl) [] [0,2,3] (λ _ _ st176=>?_)
       have st178:=st176.gn
       refine aHN (st178.hkS (sb:=3) rfl) ?_
       refine aK0 ?_
       refine st178.stG (s:=46) (sb:=3) 8 5 rfl (by simp) (by simp) (by decide) rfl rfl iI iI [] rfl [0,2] rfl rfl rfl (λ _ st179=>?_)
       have st180:=st179.gn
       refine zf ?_
       have st181:=st180.unm (s:=2) 7 rfl rfl iI [0,3] rfl
       have st182:=st181.unm (s:=3) 8 rfl rfl iI [0,2] rfl
       refine st182.thin (s:=3) (o2:=(Ow.box (owTree (Ow.row 51 (Ow.frz (α:=File)))))) 8 (YG (YF YE)) rfl rfl (by simp) iI [] rfl [0,2] rfl rfl (λ _ _ st183=>za ?_)
       cases h143
       exact fx
     ·
      refine st144.segC 1 [44,47,51] [(0,4),(2,7),(3,8),(46,5)] (λ _ _ st184=>?_)
      refine aHN (st184.hkS (sb:=3) rfl) ?_
      refine aK1 5 ?_
      refine st184.segC 1 [44,48,51] [(0,4),(2,7),(3,8),(46,5)] (λ _ _ st185=>?_)
      refine aHN (st185.hkS (sb:=3) rfl) ?_
      refine aK1 6 ?_
      refine st185.hdA 46 5 ((PV.root.row rfl (λ h=>hA113 h rfl) p121).fld owFile.f5) [0,2,3] (λ g186 A186 _ hA186 st186=>?_)
      refine st186.segB 1 (sc rfl (xLc (sb:=46) (.head _) rfl rfl rfl kT49 (tp rfl) rfl)<|.nil) [44,49,51] [(0,4),(2,7),(3,8),(46,5)] (λ _ _ st187=>?_)
      refine aHN (st187.hkS (sb:=3) rfl) ?_
      refine aK1 9 ?_
      refine st187.mvG (s:=49) (sb:=46) 5 6 ((PV.root.row rfl (λ h=>hA113 h rfl) p121).fld owFile.f5) (.head _) rfl (wi rfl rfl) rfl (by simp) (by simp) (by decide) rfl iI [44,51] rfl [0,2,3] rfl rfl rfl rfl (λ G189 H189 st189=>?_)
      have st190:=st189.gs (Gs':=[oneB none,oneB none,oneB none,oneB none,G19,G189,H189,(oneB (some b1)),G120]) rfl
      refine st190.tipR (s:=49) 6 rfl rfl (by simp) iI [0,2,3,46] rfl rfl (λ g191 st191=>?_)
      refine st191.apA 6 yS p132 [44] [0,2,3,46] (λ g192 _ _ _ st192=>?_)
      have st193:=st192.gn
      refine aHN (st193.hkS (sb:=3) rfl) ?_
      refine aK1 10 ?_
      refine st193.segB 1 (sc rfl (xIa (g:=g113) rfl kS23 (tp rfl) cI rfl (λ h=>hA113 h rfl) p135)<|.nil) [53] [(0,4),(2,7),(3,8),(46,5),(52,6)] (λ _ _ st194=>?_)
      refine aHN (st194.hkS (sb:=3) rfl) ?_
      refine aK1 11 ?_
      refine st194.segC 1 [54] [(0,4),(2,7),(3,8),(46,5),(52,6)] (λ _ _ st195=>?_)
      refine aHN (st195.hkS (sb:=3) rfl) ?_
      refine aK1 12 ?_
      have st197:=st195.tipW (s:=52) 6 rfl rfl iI [0,2,3,46] rfl
      refine st197.shA 46 52 5 6 (tp rfl) [] [0,2,3] (λ _ _ st196=>?_)
      have st198:=st196.gn
      refine aHN (st198.hkS (sb:=3) rfl) ?_
      refine aK0 ?_
      refine st198.stG (s:=46) (sb:=3) 8 5 rfl (by simp) (by simp) (by decide) rfl rfl iI iI [] rfl [0,2] rfl rfl rfl (λ _ st199=>?_)
      have st200:=st199.gn
      refine zf ?_
      have st201:=st200.unm (s:=2) 7 rfl rfl iI [0,3] rfl
      have st202:=st201.unm (s:=3) 8 rfl rfl iI [0,2] rfl
      refine st202.thin (s:=3) (o2:=(Ow.box (owTree (Ow.row 51 (Ow.frz (α:=File)))))) 8 (YG (YF YE)) rfl rfl (by simp) iI [] rfl [0,2] rfl rfl (λ _ _ st203=>za ?_)
      cases h143
      exact fx
    ·
     refine st120.segC 1 [44,51] [(0,4),(2,7),(3,8),(46,5)] (λ _ _ st204=>?_)
     refine aHN (st204.hkS (sb:=3) rfl) ?_
     refine aK1 4 ?_
     refine st204.segB 1 (sc rfl (xIaN rfl kS23 rfl cI (λ h=>hA113 h rfl) p121)<|.nil) [44,47,51] [(0,4),(2,7),(3,8),(46,5)] (λ _ _ st205=>?_)
     refine aHN (st205.hkS (sb:=3) rfl) ?_
     refine aK1 5 ?_
     refine st205.segC 1 [44,48,51] [(0,4),(2,7),(3,8),(46,5)] (λ _ _ st206=>?_)
     refine aHN (st206.hkS (sb:=3) rfl) ?_
     refine aK1 6 ?_
     refine st206.hdA 46 5 ((PV.root.row rfl (λ h=>hA113 h rfl) p121).fld owFile.f5) [0,2,3] (λ g207 A207 _ hA207 st207=>?_)
     refine st207.segB 1 (sc rfl (xLc (sb:=46) (.head _) rfl rfl rfl kT49 (tp rfl) rfl)<|.nil) [44,49,51] [(0,4),(2,7),(3,8),(46,5)] (λ _ _ st208=>?_)
     refine aHN (st208.hkS (sb:=3) rfl) ?_
     refine aK1 9 ?_
     refine st208.mvG (s:=49) (sb:=46) 5 6 ((PV.root.row rfl (λ h=>hA113 h rfl) p121).fld owFile.f5) (.head _) rfl (wi rfl rfl) rfl (by simp) (by simp) (by decide) rfl iI [44,51] rfl [0,2,3] rfl rfl rfl rfl (λ G210 H210 st210=>?_)
     have st211:=st210.gs (Gs':=[oneB none,oneB none,oneB none,oneB none,G19,G210,H210,(oneB (some b1)),G120]) rfl
     refine st211.tipR (s:=49) 6 rfl rfl (by simp) iI [0,2,3,46] rfl rfl (λ g212 st212=>?_)
     refine st212.apA 6 yS p132 [44] [0,2,3,46] (λ g213 _ _ _ st213=>?_)
     have st214:=st213.gn
     refine aHN (st214.hkS (sb:=3) rfl) ?_
     refine aK1 10 ?_
     refine st214.segB 1 (sc rfl (xIa (g:=g113) rfl kS23 (tp rfl) cI rfl (λ h=>hA113 h rfl) p135)<|.nil) [53] [(0,4),(2,7),(3,8),(46,5),(52,6)] (λ _ _ st215=>?_)
     refine aHN (st215.hkS (sb:=3) rfl) ?_
     refine aK1 11 ?_
     refine st215.segC 1 [54] [(0,4),(2,7),(3,8),(46,5),(52,6)] (λ _ _ st216=>?_)
     refine aHN (st216.hkS (sb:=3) rfl) ?_
     refine aK1 12 ?_
     have st218:=st216.tipW (s:=52) 6 rfl rfl iI [0,2,3,46] rfl
     refine st218.shA 46 52 5 6 (tp rfl) [] [0,2,3] (λ _ _ st217=>?_)
     have st219:=st217.gn
     refine aHN (st219.hkS (sb:=3) rfl) ?_
     refine aK0 ?_
     refine st219.stG (s:=46) (sb:=3) 8 5 rfl (by simp) (by simp) (by decide) rfl rfl iI iI [] rfl [0,2] rfl rfl rfl (λ _ st220=>?_)
     have st221:=st220.gn
     refine zf ?_
     have st222:=st221.unm (s:=2) 7 rfl rfl iI [0,3] rfl
     have st223:=st222.unm (s:=3) 8 rfl rfl iI [0,2] rfl
     refine st223.thin (s:=3) (o2:=(Ow.box (owTree (Ow.row 51 (Ow.frz (α:=File)))))) 8 (YG (YF YE)) rfl rfl (by simp) iI [] rfl [0,2] rfl rfl (λ _ _ st224=>za ?_)
     cases h143
     exact fx
   refine wp_skip (zf ?_)
   have st225:=st110.unm (s:=2) 7 rfl rfl iI [0,3] rfl
   have st226:=st225.unm (s:=3) 8 rfl rfl iI [0,2] rfl
   refine st226.thin (s:=3) (o2:=(Ow.box (owTree (Ow.row 51 (Ow.frz (α:=File)))))) 8 (YG (YF YE)) rfl rfl (by simp) iI [41] rfl [0,2] rfl rfl (λ _ _ st227=>za ?_)
   cases h112
   exact fx
  refine wp_skip ?_
  have st228:=st15.unm (s:=2) 7 rfl rfl iI [0,3] rfl
  have st229:=st228.unm (s:=3) 8 rfl rfl iI [0,2] rfl
  refine st229.thin (s:=3) (o2:=(Ow.box (owTree (Ow.row 51 (Ow.frz (α:=File)))))) 8 (YG (YF YE)) rfl rfl (by simp) iI [9] rfl [0,2] rfl rfl (λ _ _ st230=>za ?_)
  cases h17
  exact fx
 rintro a12 w12 ⟨M12,q12_0,q12_1,q12_2,q12_3,q12_4,q12_5,q12_6,q12_7,q12_8,st12⟩
 have h231:=k12
 refine wp_seq (wp_region_list ?_)
 refine st12.nmB (s:=3) 8 rfl rfl iI [0,2] rfl (λ b233 st233=>?_)
 refine st233.ldW (sb:=3) 8 rfl rfl kT25 rfl (by simp) iI [] rfl [0,2] rfl rfl (λ _ _ st232=>?_)
 refine st232.nmB (s:=2) 7 rfl rfl iI [0,55] rfl (λ b235 st235=>?_)
 refine st235.stO (sb:=2) (tv:=55) 7 8 (PV.root.box rfl) rfl rfl rfl kT25 (by simp) (by simp) (by decide) (zR rfl) rfl rfl rfl iI iI [] rfl [0] rfl rfl rfl (λ _ _ st234=>?_)
 have st236:=st234.gn
 refine wpList_nil (za (wp_ret ?_))
 exact st236.rsCO (s:=0) 4 7 rfl kT25 rfl rfl iI iI (by decide) (bxr h231)
open Go.RowKit Tryz
set_option maxRecDepth 10000
set_option maxHeartbeats 1600000
theorem kN74:fnB prog 74=true:=by kernel_rfl
def Z2(x0:Reader):Option (Reader×Tree×(List Int)×Str):=
(ZC x0).bind λ v6=>
(ZB v6.1).bind λ v15=>
(gO (cmpI .gtr (v6.2.files.length:Int) (0:Int) == true) (zC v15.1 (4:Int))).bind λ v22=>
if(cmpI .gtr (v6.2.files.length:Int) (0:Int)&&cmpI .gtr v22.2 (0:Int))=true then((zC (if(cmpI .gtr (v6.2.files.length:Int) (0:Int) == true)=true then v22.1 else v15.1) (v6.2.files.length:Int)).bind λ v41=>
(atI v6.2.files v41.2).bind λ v44=>
(Zk v44).bind λ v47=>
some (v41.1,v6.2,v15.2,v47))
else((ZA (if(cmpI .gtr (v6.2.files.length:Int) (0:Int) == true)=true then v22.1 else v15.1)).bind λ v90=>
some (v90.1,v6.2,v15.2,v90.2))
theorem spec_nameOf_w{x0:Reader}{r:Reader×Tree×(List Int)×Str}(h:Z2 x0=some r):FnS prog 30 (Ow.box (Ow.frz (α:=Reader))) ⟨x0⟩ [] ⟨r.1⟩ (.t3 (owTree (Ow.row 51 (Ow.frz (α:=File)))) r.2.1 (dt r.2.2.1) (dt r.2.2.2)):=by
 unfold Z2 at h
 refine fnSB (fn:=f30) 3 6 func30 rfl (oD rfl) rfl (λ M G _ b0 _ st0=>wp_seq (wp_region_list ?_))
 refine st0.alcW (ow:=(owTree (Ow.row 51 (Ow.frz (α:=File))))) 4 rfl rfl kZ25 (owTree.z Ow.row_z) (by simp) [] rfl [0] rfl rfl (λ b1 _ _ _ st1=>?_)
 have st2:=st1.gn
 refine st2.segB 2 (sc rfl (oA rfl (x8 (α:=Int)))<|segC) [] [(0,3),(2,4)] (λ _ _ st3=>wpList_nil (za (wp_seq (wp_region_list ?_))))
 refine st3.segC 1 [7] [(0,3),(2,4)] (λ _ _ st4=>?_)
 obtain⟨v6,p6,h7⟩:=bs h
 refine st4.cSO (l:=[]) 3 0 (st4.bkN (s:=0) rfl iI) rfl rfl kN74 (Eq.trans (st4.st.has 7 _ rfl) (st4.st.has 0 _ rfl).1.symm) (by simp) (by simp) (by decide) .nil (zc6 p6) [] rfl [2] rfl rfl rfl rfl (by decide) (λ _ H5 _ _ _ st5=>?_)
 have st8:=st5.gn
 refine st8.alcW (ow:=(owTree (Ow.row 51 (Ow.frz (α:=File))))) 5 rfl rfl kZ25 (owTree.z Ow.row_z) (by simp) [] rfl [0,2,8] rfl rfl (λ b9 _ _ _ st9=>?_)
 have st10:=st9.gn
 refine st10.stO (sb:=5) (tv:=8) 5 0 (PV.root.box rfl) rfl rfl rfl kT25 (by simp) (by simp) (by decide) (zR rfl) rfl rfl rfl iI iI [] rfl [0,2] rfl rfl rfl (λ G11 _ st11=>?_)
 have st12:=st11.gn
 refine wpList_nil (za (wp_seq (wp_region_list ?_)))
 refine st12.segC 1 [9] [(0,3),(2,4),(5,5)] (λ _ _ st13=>?_)
 obtain⟨v15,p15,h16⟩:=bs h7
 refine st13.cNA 3 0 (zc5 p15) [] [2,5] (λ G14 _ _ _ st17=>?_)
 refine st17.segA 1 [6] [(0,3),(2,4),(5,5)] (λ _ _ st18=>wpList_nil (za (wp_seq (wp_seq (wp_region_list ?_)))))
 refine st18.hdA 5 5 ((PV.root.box rfl).fld owTree.f0) [0,2] (λ g19 A19 _ hA19 st19=>?_)
 refine st19.segB 6 (sc rfl (xFa rfl qg (zR rfl))<|sc rfl (xLc (sb:=5) (.head _) rfl rfl rfl kT23 (tp rfl) rfl)<|sc rfl (xLe rfl kL23 (tp rfl))<|sc rfl (oCI rfl (tp rfl) cI)<|sc rfl (oM rfl (tp rfl))<|sg rfl rfl (λ hg=>oM rfl (zR rfl))<|.nil) [6,15,16] [(0,3),(2,4),(5,5)] (λ _ _ st20=>?_)
 obtain⟨v22,p22,h23⟩:=bs h16
 refine st20.cSFgB (sb:=0) (l:=[.const (.int .i64 4)]) 3 rfl iI rfl rfl rfl kN75 (λ hg=>(st20.st.has 16 _ rfl).1 hg) (by simp) (λ hg=>(.cons cI .nil)) (λ hg=>zF (gh hg p22)) [6,15] rfl [2,5] rfl rfl (by decide) (λ _ _ _ _ st21=>?_)
 have st24:=st21.gn
 refine st24.segC 2 [6,19] [(0,3),(2,4),(5,5)] (λ _ _ st25=>wpList_nil ?_)
 have st26:=st25.ncf (s:=5) 5 rfl rfl iI [0,2] rfl
 refine za ?_
 refine st26.cs rfl h23 (λ _ h27=>wp_seq ?_) (λ _ h28=>wp_skip (za (wp_seq ?_)))
 ·
  have st29:=st26.unm (s:=5) 5 rfl rfl iI [0,2] rfl
  refine st29.opB (s:=5) 5 rfl rfl iI [0,2] rfl (λ b30 C30 e30 st30=>?_)
  refine st30.held (λ w=>w.heap[b30]?=some (.cells C30 e30 (0,0))) zJ (λ _ st31=>?_)
  refine st31.tkO (i:=0) (s:=5) 5 1 rfl rfl (by decide +kernel) (by decide +kernel) (by decide +kernel) (λ _ _ _ _ h=>h) rfl iI rfl rfl kT25 rfl (by simp) (by simp) (by decide) [6,19] rfl [0,2] rfl rfl rfl rfl (by decide) (λ _ G32 hz32 st32=>?_)
  refine st32.tM 1 6 (st32.bcS (s:=5) rfl) (λ _ st33=>?_)
  refine st33.tkP (i:=2) (s:=5) rfl rfl (by decide +kernel) (by decide +kernel) (by decide +kernel) (λ _ _ _ _ h=>h) rfl rfl qg rfl (λ _ st34=>?_)
  refine st34.tkC (i:=3) (s:=5) (s2:=22) rfl rfl (by decide +kernel) (by decide +kernel) (by decide +kernel) (λ _ _ _ _ h=>h) rfl rfl rfl kT23 rfl hz32 (by decide) (λ _ st35=>?_)
  obtain⟨g35,A35,c35,hb35,hA35⟩:=st35.hdV (s:=20) (PV.root.fld owTree.f0) rfl
  refine st35.tkP (i:=5) (s:=5) rfl rfl (by decide +kernel) (by decide +kernel) (by decide +kernel) (λ _ _ _ _ h=>h) rfl rfl qg rfl (λ _ st36=>?_)
  refine st36.tkC (i:=6) (s:=5) (s2:=25) rfl rfl (by decide +kernel) (by decide +kernel) (by decide +kernel) (λ _ _ _ _ h=>h) rfl rfl rfl kT23 rfl hz32 (by decide) (λ _ st37=>?_)
  obtain⟨g37,A37,c37,hb37,hA37⟩:=st37.hdV (s:=20) (PV.root.fld owTree.f0) rfl
  obtain⟨v41,p41,v44,p44,v47,p47,h56⟩:=bsC h27
  refine aK2 4 7 ?_ ?_
  ·
   refine st37.segC 1 [21,23,24,26] [(0,3),(2,4),(5,5),(20,1)] (λ _ _ st57=>?_)
   refine aHN (st57.bcS (s:=5) rfl) ?_
   refine aK1 7 ?_
   refine st57.segB 1 (sc rfl (xLe rfl kL23 (opd_eq hb37 (tp rfl)))<|.nil) [21,23,24,27] [(0,3),(2,4),(5,5),(20,1)] (λ _ _ st58=>?_)
   refine aHN (st58.bcS (s:=5) rfl) ?_
   refine aK1 8 ?_
   refine st58.cNA 3 0 (zF p41) [21,23] [2,5,20] (λ G59 _ _ _ st60=>?_)
   refine aHN (st60.bcS (s:=5) rfl) ?_
   refine aK1 9 ?_
   refine st60.segB 1 (sc rfl (xIa (g:=g35) rfl kS23 (opd_eq hb35 (tp rfl)) (tp rfl) rfl hA35 p44)<|.nil) [21,29] [(0,3),(2,4),(5,5),(20,1)] (λ _ _ st61=>?_)
   refine aHN (st61.bcS (s:=5) rfl) ?_
   refine aK1 10 ?_
   refine st61.segB 1 (sc rfl (xLf (sb:=20) ((PV.root.fld owTree.f0).row hb35 hA35 p44) rfl kT51 (tp rfl) rfl)<|.nil) [21,30] [(0,3),(2,4),(5,5),(20,1)] (λ _ _ st62=>?_)
   refine aHN (st62.bcS (s:=5) rfl) ?_
   refine aK1 11 ?_
   refine st62.segB 1 (sc rfl (oK (YH p47))<|.nil) [21,31] [(0,3),(2,4),(5,5),(20,1)] (λ _ _ st63=>?_)
   refine aHN (st63.bcS (s:=5) rfl) ?_
   refine aK1 12 ?_
   have st64:=st63.unm (s:=20) 1 rfl rfl iI [0,2,5] rfl
   refine st64.stO (sb:=2) (tv:=20) 4 1 (PV.root.box rfl) rfl rfl rfl kT25 (by simp) (by simp) (by decide) (zR rfl) rfl rfl rfl iI iI [21,31] rfl [0,5] rfl rfl rfl (λ _ _ st65=>?_)
   have st66:=st65.gn
   refine aHN (st66.bcS (s:=5) rfl) ?_
   refine aK1 13 ?_
   refine st66.segA 1 [3,31] [(0,3),(2,4),(5,5)] (λ _ _ st67=>?_)
   refine aHN (st67.bcS (s:=5) rfl) ?_
   refine aK1 14 ?_
   refine st67.segA 1 [3,4] [(0,3),(2,4),(5,5)] (λ _ _ st68=>?_)
   refine aHN (st68.bcS (s:=5) rfl) ?_
   refine aK0 (za ?_)
   refine wp_ret (ze ?_)
   obtain rfl:=Option.some.inj h56
   exact st68.rs3O (s:=0) 3 4 rfl kT25 rfl rfl rfl rfl ⟨rfl,rfl⟩ iI iI (by decide) ⟨rfl,rfl⟩
  ·
   refine st37.segB 1 (sc rfl (xLe rfl kL23 (opd_eq hb37 (tp rfl)))<|.nil) [21,23,27] [(0,3),(2,4),(5,5),(20,1)] (λ _ _ st70=>?_)
   refine aHN (st70.bcS (s:=5) rfl) ?_
   refine aK1 4 ?_
   refine st70.segC 1 [21,23,24,27] [(0,3),(2,4),(5,5),(20,1)] (λ _ _ st71=>?_)
   refine aHN (st71.bcS (s:=5) rfl) ?_
   refine aK1 8 ?_
   refine st71.cNA 3 0 (zF p41) [21,23] [2,5,20] (λ G72 _ _ _ st73=>?_)
   refine aHN (st73.bcS (s:=5) rfl) ?_
   refine aK1 9 ?_
   refine st73.segB 1 (sc rfl (xIa (g:=g35) rfl kS23 (opd_eq hb35 (tp rfl)) (tp rfl) rfl hA35 p44)<|.nil) [21,29] [(0,3),(2,4),(5,5),(20,1)] (λ _ _ st74=>?_)
   refine aHN (st74.bcS (s:=5) rfl) ?_
   refine aK1 10 ?_
   refine st74.segB 1 (sc rfl (xLf (sb:=20) ((PV.root.fld owTree.f0).row hb35 hA35 p44) rfl kT51 (tp rfl) rfl)<|.nil) [21,30] [(0,3),(2,4),(5,5),(20,1)] (λ _ _ st75=>?_)
   refine aHN (st75.bcS (s:=5) rfl) ?_
   refine aK1 11 ?_
   refine st75.segB 1 (sc rfl (oK (YH p47))<|.nil) [21,31] [(0,3),(2,4),(5,5),(20,1)] (λ _ _ st76=>?_)
   refine aHN (st76.bcS (s:=5) rfl) ?_
   refine aK1 12 ?_
   have st77:=st76.unm (s:=20) 1 rfl rfl iI [0,2,5] rfl
   refine st77.stO (sb:=2) (tv:=20) 4 1 (PV.root.box rfl) rfl rfl rfl kT25 (by simp) (by simp) (by decide) (zR rfl) rfl rfl rfl iI iI [21,31] rfl [0,5] rfl rfl rfl (λ _ _ st78=>?_)
   have st79:=st78.gn
   refine aHN (st79.bcS (s:=5) rfl) ?_
   refine aK1 13 ?_
   refine st79.segA 1 [3,31] [(0,3),(2,4),(5,5)] (λ _ _ st80=>?_)
   refine aHN (st80.bcS (s:=5) rfl) ?_
   refine aK1 14 ?_
   refine st80.segA 1 [3,4] [(0,3),(2,4),(5,5)] (λ _ _ st81=>?_)
   refine aHN (st81.bcS (s:=5) rfl) ?_
   refine aK0 (za ?_)
   refine wp_ret (ze ?_)
   obtain rfl:=Option.some.inj h56
   exact st81.rs3O (s:=0) 3 4 rfl kT25 rfl rfl rfl rfl ⟨rfl,rfl⟩ iI iI (by decide) ⟨rfl,rfl⟩
 have st83:=st26.unm (s:=5) 5 rfl rfl iI [0,2] rfl
 refine st83.opB (s:=5) 5 rfl rfl iI [0,2] rfl (λ b84 C84 e84 st84=>?_)
 refine st84.held (λ w=>w.heap[b84]?=some (.cells C84 e84 (0,0))) zJ (λ _ st85=>?_)
 refine st85.tkO (i:=0) (s:=5) 5 2 rfl rfl (by decide +kernel) (by decide +kernel) (by decide +kernel) (λ _ _ _ _ h=>h) rfl iI rfl rfl kT25 rfl (by simp) (by simp) (by decide) [6,19] rfl [0,2] rfl rfl rfl rfl (by decide) (λ _ G86 hz86 st86=>?_)
 refine st86.tM 1 6 (st86.bcS (s:=5) rfl) (λ _ st87=>?_)
 obtain⟨v90,p90,h98⟩:=bs h28
 refine aK1 2 ?_
 refine st87.segC 1 [33,34] [(0,3),(2,4),(5,5),(32,2)] (λ _ _ st99=>?_)
 refine aHN (st99.bcS (s:=5) rfl) ?_
 refine aK1 3 ?_
 refine st99.cNA 3 0 (zc4 p90) [33] [2,5,32] (λ G100 _ _ _ st101=>?_)
 refine aHN (st101.bcS (s:=5) rfl) ?_
 refine aK1 4 ?_
 have st102:=st101.unm (s:=32) 2 rfl rfl iI [0,2,5] rfl
 refine st102.stO (sb:=2) (tv:=32) 4 2 (PV.root.box rfl) rfl rfl rfl kT25 (by simp) (by simp) (by decide) (zR rfl) rfl rfl rfl iI iI [33,35] rfl [0,5] rfl rfl rfl (λ _ _ st103=>?_)
 have st104:=st103.gn
 refine aHN (st104.bcS (s:=5) rfl) ?_
 refine aK1 5 ?_
 refine st104.segA 1 [3,35] [(0,3),(2,4),(5,5)] (λ _ _ st105=>?_)
 refine aHN (st105.bcS (s:=5) rfl) ?_
 refine aK1 6 ?_
 refine st105.segA 1 [3,4] [(0,3),(2,4),(5,5)] (λ _ _ st106=>?_)
 refine aHN (st106.bcS (s:=5) rfl) ?_
 refine aK0 (za (wp_ret ?_))
 obtain rfl:=Option.some.inj h98
 exact st106.rs3O (s:=0) 3 4 rfl kT25 rfl rfl rfl rfl ⟨rfl,rfl⟩ iI iI (by decide) ⟨rfl,rfl⟩
open Go.RowKit Tryz
set_option maxRecDepth 10000
set_option maxHeartbeats 1600000
theorem kN30:fnB prog 30=true:=by kernel_rfl
theorem kI49:sliB prog 49 74 5=true:=by kernel_rfl
instance iF25_0OxJ:FldO prog 25 0 0:=⟨qg⟩
instance iF51_5OxJ:FldO prog 51 5 5:=⟨kF51_5⟩
def yW(s35:Reader×Tree×Int)(s58:Reader×(List Stmt)×Int):Option ((Reader×(List Stmt)×Int)⊕(Reader×(List Stmt))):=
if(cmpI .gtr s58.2.2 (0:Int)&&cmpI .gtr s35.2.2 (0:Int))=true then(Option.bind (α:=Reader×(List Stmt)) ((zC s58.1 s35.2.2).bind λ v73=>
(atI s35.2.1.files v73.2).bind λ v76=>
(Zk v76).bind λ v79=>
(yx v79).bind λ v93=>
(gO ((!v93) == false) (yz v79)).bind λ v94=>
(gO (((!v93) == false)&&(decide (v94≠(⟨[]⟩:Str)) == true)) (zC v73.1 (2:Int))).bind λ v99=>
if((!v93)||(decide (v94≠(⟨[]⟩:Str))&&cmpI .eql v99.2 (0:Int)))=true then(some ((if(((!v93) == false)&&(decide (v94≠(⟨[]⟩:Str)) == true))=true then v99.1 else v73.1),s58.2.1))
else((yb (if(((!v93) == false)&&(decide (v94≠(⟨[]⟩:Str)) == true))=true then v99.1 else v73.1) ([(0:Int),(0:Int),(2:Int)]:List Int)).bind λ v109=>
(appO 56 s58.2.1 ([(⟨v109.2,v79,0,⟨[]⟩,0⟩:Stmt)]:List Stmt)).bind λ v117=>
some (v109.1,v117))) λ o63=>
(i64 (s58.2.2 - (1:Int))).bind λ v124=>
some (.inl (o63.1,o63.2,v124)))
else(some (.inr (s58.1,s58.2.1)))
def xy(s35:Reader×Tree×Int):Option ((Reader×Tree×Int)⊕(Reader×Tree)):=
if(cmpI .lss s35.2.2 (s35.2.1.files.length:Int))=true then(Option.bind (α:=Reader×Tree) (Option.bind (α:=Reader×(List Stmt)) ((zC s35.1 (3:Int)).bind λ v52=>
zK (λ s58=>yW s35 s58) (v52.1,[(⟨(3:Int),⟨[]⟩,0,(⟨[120]⟩:Str),s35.2.2⟩:Stmt)],v52.2)) λ o49=>
(atI s35.2.1.files s35.2.2).bind λ v132=>
some (o49.1,(⟨(s35.2.1.files.set s35.2.2.toNat ({ v132 with body:=o49.2 }))⟩:Tree))) λ o43=>
(i64 (s35.2.2+(1:Int))).bind λ v138=>
some (.inl (o43.1,o43.2,v138)))
else(some (.inr (s35.1,s35.2.1)))
def ZD(x0:Reader):Option (Reader×Tree×(List Int)×Str):=
(Z2 x0).bind λ v6=>
(zC v6.1 (3:Int)).bind λ v19=>
if(cmpI .eql v19.2 (0:Int))=true then(some (v19.1,v6.2.1,v6.2.2.1,v6.2.2.2))
else(Option.bind (α:=Reader×Tree) (zK (λ s35=>xy s35) (v19.1,v6.2.1,(0:Int))) λ o31=>
some (o31.1,o31.2,v6.2.2.1,v6.2.2.2))
theorem zc7{x0:Reader}{r:Reader×Tree×(List Int)×Str}(h:ZD x0=some r):FnS prog 47 (Ow.box (Ow.frz (α:=Reader))) ⟨x0⟩ [] ⟨r.1⟩ (.t3 (owTree (Ow.row 51 (Ow.frz (α:=File)))) r.2.1 (dt r.2.2.1) (dt r.2.2.2)):=by
 unfold ZD at h
 refine fnSB (fn:=f47) 4 9 func47 rfl (oD rfl) rfl (λ M G w0 b0 _ st0=>wp_seq (wp_region_list ?_))
 refine st0.alcW (ow:=(owTree (Ow.row 51 (Ow.frz (α:=File))))) 7 rfl rfl kZ25 (owTree.z Ow.row_z) (by simp) [] rfl [0] rfl rfl (λ b1 M1 _ _ st1=>?_)
 have st2:=st1.gn
 refine st2.segB 2 (sc rfl (oA rfl (x8 (α:=Int)))<|segC) [] [(0,4),(2,7)] (λ _ _ st3=>wpList_nil (za (wp_seq (wp_region_list ?_))))
 refine st3.segC 1 [13] [(0,4),(2,7)] (λ _ _ st4=>?_)
 obtain⟨v6,p6,h7⟩:=bs h
 refine st4.cSO (l:=[]) 4 0 (st4.bkN (s:=0) rfl iI) rfl rfl kN30 (Eq.trans (st4.st.has 13 _ rfl) (st4.st.has 0 _ rfl).1.symm) (by simp) (by simp) (by decide) .nil (spec_nameOf_w p6) [] rfl [2] rfl rfl rfl rfl (by decide) (λ _ H5 _ _ _ st5=>?_)
 have st8:=st5.gn
 refine st8.mvD (s:=14) 0 rfl rfl rfl rfl iI rfl [0,2] rfl (λ _ st9=>?_)
 refine st9.ex3 (s:=12) 0 rfl rfl rfl rfl iI rfl [0,2] rfl (λ _ st10=>?_)
 refine st10.segB 2 (sc rfl (xEx1 rfl (tp rfl))<|sc rfl (xEx2 rfl (tp rfl))<|.nil) [16,17] [(0,4),(2,7),(15,0)] (λ _ _ st11=>?_)
 refine st11.alcW (ow:=(owTree (Ow.row 51 (Ow.frz (α:=File))))) 8 rfl rfl kZ25 (owTree.z Ow.row_z) (by simp) [16,17] rfl [0,2,15] rfl rfl (λ b12 _ _ _ st12=>?_)
 have st13:=st12.gn
 refine st13.stO (sb:=5) (tv:=15) 8 0 (PV.root.box rfl) rfl rfl rfl kT25 (by simp) (by simp) (by decide) (zR rfl) rfl rfl rfl iI iI [16,17] rfl [0,2] rfl rfl rfl (λ G14 _ st14=>?_)
 have st15:=st14.gn
 refine st15.segA 2 [6,7] [(0,4),(2,7),(5,8)] (λ _ _ st16=>wpList_nil (za (wp_seq (wp_seq (wp_region_list ?_)))))
 refine st16.segC 1 [6,7,18] [(0,4),(2,7),(5,8)] (λ _ _ st17=>?_)
 obtain⟨v19,p19,h20⟩:=bs h7
 refine st17.cNA 4 0 (zF p19) [6,7] [2,5] (λ G18 _ _ _ st21=>?_)
 refine st21.segA 1 [6,7,20] [(0,4),(2,7),(5,8)] (λ _ _ st22=>wpList_nil (za ?_))
 refine st22.cs rfl h20 (λ _ h23=>wp_seq (wp_region_list ?_)) (λ _ h24=>wp_skip (za ?_))
 ·
  refine st22.ldW (sb:=5) 8 rfl rfl kT25 rfl (by simp) iI [6,7] rfl [0,2] rfl rfl (λ _ _ st25=>?_)
  refine st25.segA 2 [22,23] [(0,4),(2,7),(21,8)] (λ _ _ st26=>?_)
  refine st26.stO (sb:=2) (tv:=21) 7 8 (PV.root.box rfl) rfl rfl rfl kT25 (by simp) (by simp) (by decide) (zR rfl) rfl rfl rfl iI iI [22,23] rfl [0] rfl rfl rfl (λ _ _ st27=>?_)
  have st28:=st27.gn
  refine st28.segA 2 [3,4] [(0,4),(2,7)] (λ _ _ st29=>wpList_nil (za ?_))
  refine wp_ret (ze ?_)
  obtain rfl:=Option.some.inj h23
  exact st29.rs3O (s:=0) 4 7 rfl kT25 rfl rfl rfl rfl ⟨rfl,rfl⟩ iI iI (by decide) ⟨rfl,rfl⟩
 obtain⟨o31,p31,k31⟩:=bs h24
 refine zi (λ a w=>∃ M1 q31_0 q31_1 q31_2 q31_3 q31_4 q31_5 q31_6 q31_7 q31_8,Sx (Frm.chg w0 G) 82 M M1 [q31_0,q31_1,q31_2,q31_3,q31_4,q31_5,q31_6,q31_7,q31_8] [(6,dt v6.2.2.1),(7,dt v6.2.2.2)] [(0,4,dnm (Ow.box (Ow.frz (α:=Reader))) q31_4 ⟨o31.1⟩ (.pointer (some ⟨b0,0,none⟩)) []),(2,7,dow (Ow.box (owTree (Ow.row 51 (Ow.frz (α:=File))))) q31_7 ⟨JI⟩),(5,8,dow (Ow.box (owTree (Ow.row 51 (Ow.frz (α:=File))))) q31_8 ⟨o31.2⟩)] a w) ?_ ?_
 ·
  refine st22.sqA [6,7,8] [(0,4),(2,7),(5,8)] (λ _ _ st32=>wp_block ?_)
  have st33:=st32.unm (s:=2) 7 rfl rfl iI [0,5] rfl
  have st34:=st33.unm (s:=5) 8 rfl rfl iI [0,2] rfl
  refine zG p31 (λ s35 a w=>∃ M1 q35_0 q35_1 q35_2 q35_3 q35_4 q35_5 q35_6 q35_7 q35_8,Sx (Frm.chg w0 G) 82 M M1 [q35_0,q35_1,q35_2,q35_3,q35_4,q35_5,q35_6,q35_7,q35_8] [(6,dt v6.2.2.1),(7,dt v6.2.2.2),(8,dt s35.2.2)] [(0,4,dnm (Ow.box (Ow.frz (α:=Reader))) q35_4 ⟨s35.1⟩ (.pointer (some ⟨b0,0,none⟩)) []),(2,7,dow (Ow.box (owTree (Ow.row 51 (Ow.frz (α:=File))))) q35_7 ⟨JI⟩),(5,8,dow (Ow.box (owTree (Ow.row 51 (Ow.frz (α:=File))))) q35_8 ⟨s35.2.1⟩)] a w) fx ?_
  rintro s35 z35 a35 w35 ⟨M35,q35_0,q35_1,q35_2,q35_3,q35_4,q35_5,q35_6,q35_7,q35_8,st35⟩ hs35 hx35
  have h36:xy s35=some z35:=hs35
  unfold xy at h36
  refine wp_seq ?_
  refine st35.nmB (s:=5) 8 rfl rfl iI [0,2] rfl (λ b37 st37=>?_)
  refine st37.hdA 5 8 ((PV.root.box rfl).fld owTree.f0) [0,2] (λ g38 A38 _ hA38 st38=>?_)
  refine st38.sqB (sP 1 (r:=by exact sc rfl (xFa rfl qg (zR rfl))<|sc rfl (xLc (sb:=5) (.head _) rfl rfl rfl kT23 (tp rfl) rfl)<|sc rfl (xLe rfl kL23 (tp rfl))<|segC)) [6,7,8,28] [(0,4),(2,7),(5,8)] (λ _ _ st39=>?_)
  have st40:=st39.ncf (s:=5) 8 rfl rfl iI [0,2] rfl
  refine st40.cs rfl h36 (λ _ h41=>wp_skip (za ?_)) (λ _ h42=>?_)
  ·
   obtain⟨o43,p43,k43⟩:=bs h41
   refine zi (λ a w=>∃ M1 q43_0 q43_1 q43_2 q43_3 q43_4 q43_5 q43_6 q43_7 q43_8,Sx (Frm.chg w0 G) 82 M M1 [q43_0,q43_1,q43_2,q43_3,q43_4,q43_5,q43_6,q43_7,q43_8] [(6,dt v6.2.2.1),(7,dt v6.2.2.2),(8,dt s35.2.2)] [(0,4,dnm (Ow.box (Ow.frz (α:=Reader))) q43_4 ⟨o43.1⟩ (.pointer (some ⟨b0,0,none⟩)) []),(2,7,dow (Ow.box (owTree (Ow.row 51 (Ow.frz (α:=File))))) q43_7 ⟨JI⟩),(5,8,dow (Ow.box (owTree (Ow.row 51 (Ow.frz (α:=File))))) q43_8 ⟨o43.2⟩)] a w) ?_ ?_
   ·
    refine wp_block (wp_seq (wp_region_list ?_))
    refine st40.segB 2 (sP 1 (r:=by exact sc rfl (Jq rfl cI (zN (by decide)) (tp rfl))<|.nil)) [6,7,8,32] [(0,4),(2,7),(5,8)] (λ _ _ st44=>?_)
    refine st44.litW (oe:=(Ow.frz (α:=Stmt))) (opds:=[.tmp 32]) (xs:=[(⟨(3:Int),⟨[]⟩,0,(⟨[120]⟩:Str),s35.2.2⟩:Stmt)]) 5 [] rfl rfl kI49 kY49 rfl rfl (by decide) rfl (by decide) (rowW_lit (oe:=(Ow.frz (α:=Stmt))) (G1:=noB) (Ym (st44.st.has 32 _ rfl)) (λ _ h=>h.elim)) (λ q hq=>by
 simp only[List.mem_cons,List.not_mem_nil,or_false] at hq
 subst hq
 exact Rep.len (Ym (st44.st.has 32 _ rfl))) (by simp) [6,7,8] rfl [0,2,5] rfl rfl rfl (by decide) (λ G45 _ _ _ st45=>?_)
    have st46:=st45.gs (Gs':=[q35_0,q35_1,q35_2,q35_3,q35_4,G45,q35_6,q35_7,q35_8]) rfl
    refine st46.nmR (s:=33) 5 rfl rfl iI [0,2,5] rfl (λ g47 A47 _ hA47 st47=>?_)
    refine st47.segA 1 [6,7,8] [(0,4),(2,7),(5,8),(9,5)] (λ _ _ st48=>wpList_nil (za ?_))
    obtain⟨o49,p49,k49⟩:=bs p43
    refine zi (λ a w=>∃ M1 q49_0 q49_1 q49_2 q49_3 q49_4 q49_5 q49_6 q49_7 q49_8,Sx (Frm.chg w0 G) 82 M M1 [q49_0,q49_1,q49_2,q49_3,q49_4,q49_5,q49_6,q49_7,q49_8] [(6,dt v6.2.2.1),(7,dt v6.2.2.2),(8,dt s35.2.2)] [(0,4,dnm (Ow.box (Ow.frz (α:=Reader))) q49_4 ⟨o49.1⟩ (.pointer (some ⟨b0,0,none⟩)) []),(2,7,dow (Ow.box (owTree (Ow.row 51 (Ow.frz (α:=File))))) q49_7 ⟨JI⟩),(5,8,dow (Ow.box (owTree (Ow.row 51 (Ow.frz (α:=File))))) q49_8 ⟨s35.2.1⟩),(9,5,dow (Ow.row 74 (Ow.frz (α:=Stmt))) q49_5 o49.2)] a w) ?_ ?_
    ·
     refine wp_seq (wp_region_list ?_)
     refine st48.segC 1 [6,7,8,34] [(0,4),(2,7),(5,8),(9,5)] (λ _ _ st50=>?_)
     obtain⟨v52,p52,h53⟩:=bs p49
     refine st50.cNA 4 0 (zF p52) [6,7,8] [2,5,9] (λ G51 _ _ _ st54=>?_)
     refine st54.segA 1 [6,7,8,10] [(0,4),(2,7),(5,8),(9,5)] (λ _ _ st55=>wpList_nil (za (wp_block ?_)))
     have st56:=st55.unm (s:=5) 8 rfl rfl iI [0,2,9] rfl
     have st57:=st56.unm (s:=9) 5 rfl rfl iI [0,2,5] rfl
     refine zG h53 (λ s58 a w=>∃ M1 q58_0 q58_1 q58_2 q58_3 q58_4 q58_5 q58_6 q58_7 q58_8,Sx (Frm.chg w0 G) 82 M M1 [q58_0,q58_1,q58_2,q58_3,q58_4,q58_5,q58_6,q58_7,q58_8] [(6,dt v6.2.2.1),(7,dt v6.2.2.2),(8,dt s35.2.2),(10,dt s58.2.2)] [(0,4,dnm (Ow.box (Ow.frz (α:=Reader))) q58_4 ⟨s58.1⟩ (.pointer (some ⟨b0,0,none⟩)) []),(2,7,dow (Ow.box (owTree (Ow.row 51 (Ow.frz (α:=File))))) q58_7 ⟨JI⟩),(5,8,dow (Ow.box (owTree (Ow.row 51 (Ow.frz (α:=File))))) q58_8 ⟨s35.2.1⟩),(9,5,dow (Ow.row 74 (Ow.frz (α:=Stmt))) q58_5 s58.2.1)] a w) fx ?_
     rintro s58 z58 a58 w58 ⟨M58,q58_0,q58_1,q58_2,q58_3,q58_4,q58_5,q58_6,q58_7,q58_8,st58⟩ hs58 hx58
     have h59:yW s35 s58=some z58:=hs58
     unfold yW at h59
     refine wp_seq ?_
     refine st58.sqC [6,7,8,10,41] [(0,4),(2,7),(5,8),(9,5)] (λ _ _ st60=>?_)
     refine st60.cs rfl h59 (λ _ h61=>wp_skip (za ?_)) (λ _ h62=>wp_exit (zh (zh (zy ?_))))
     ·
      obtain⟨o63,p63,k63⟩:=bs h61
      refine zi (λ a w=>∃ M1 q63_0 q63_1 q63_2 q63_3 q63_4 q63_5 q63_6 q63_7 q63_8,Sx (Frm.chg w0 G) 82 M M1 [q63_0,q63_1,q63_2,q63_3,q63_4,q63_5,q63_6,q63_7,q63_8] [(6,dt v6.2.2.1),(7,dt v6.2.2.2),(8,dt s35.2.2),(10,dt s58.2.2)] [(0,4,dnm (Ow.box (Ow.frz (α:=Reader))) q63_4 ⟨o63.1⟩ (.pointer (some ⟨b0,0,none⟩)) []),(2,7,dow (Ow.box (owTree (Ow.row 51 (Ow.frz (α:=File))))) q63_7 ⟨JI⟩),(5,8,dow (Ow.box (owTree (Ow.row 51 (Ow.frz (α:=File))))) q63_8 ⟨s35.2.1⟩),(9,5,dow (Ow.row 74 (Ow.frz (α:=Stmt))) q63_5 o63.2)] a w) ?_ ?_
      ·
       refine wp_block (wp_seq ?_)
       refine st60.nmB (s:=5) 8 rfl rfl iI [0,2,9] rfl (λ b64 st64=>?_)
       refine st64.hdA 5 8 ((PV.root.box rfl).fld owTree.f0) [0,2,9] (λ g65 A65 c65 hA65 st65=>?_)
       refine st65.held (λ w=>w.cell? ⟨b64,0,none⟩=some (.slice A65 (s35.2.1.files.length) c65)) zJ (λ _ st66=>?_)
       refine st66.tk (i:=0) rfl rfl (by decide +kernel) (by decide +kernel) (by decide +kernel) (λ _ _ _ h=>h) (st66.cellS (sb:=5) rfl (.head _) rfl rfl) (yFa rfl qg (st66.st.has 5 _ rfl).1) (λ _ st67=>?_)
       refine st67.tk (i:=1) rfl rfl (by decide +kernel) (by decide +kernel) (by decide +kernel) (λ _ _ _ h=>h) (st67.cellS (sb:=5) rfl (.head _) rfl rfl) (yLd rfl kT23 (st67.st.has 44 _ rfl) (λ _ h=>h)) (λ _ st68=>?_)
       refine st68.tN 2 0 (st68.cellS (sb:=5) rfl (.head _) rfl rfl) (λ _ st69=>?_)
       refine st69.tM 3 8 (st69.cellS (sb:=5) rfl (.head _) rfl rfl) (λ _ st70=>?_)
       refine st70.mvN (s:=45) (sb:=5) 8 3 ((PV.root.box rfl).fld owTree.f0) (.head _) rfl (wi rfl rfl) rfl rfl (by simp) (by simp) (by decide) rfl iI [6,7,8,10,41,44,46,47] rfl [0,2,9] rfl rfl rfl rfl (by decide) (λ G71 H71 st71=>?_)
       obtain⟨v73,p73,v76,p76,h83⟩:=bsB p63
       obtain⟨v79,p79,h84⟩:=bsW h83 YH
       refine aK1 4 ?_
       refine st71.cNA 4 0 (zF p73) [6,7,8,10] [2,5,9,45] (λ G85 _ _ _ st86=>?_)
       refine aHN (st86.hkS (sb:=5) rfl) ?_
       refine aK1 5 ?_
       refine st86.segB 1 (sc rfl (xIaN rfl kS23 rfl (tp rfl) (λ h=>hA65 h rfl) p76)<|.nil) [6,7,8,10,49] [(0,4),(2,7),(5,8),(9,5),(45,3)] (λ _ _ st87=>?_)
       refine aHN (st87.hkS (sb:=5) rfl) ?_
       refine aK1 6 ?_
       refine st87.segB 1 (sc rfl (xLf (sb:=45) (PV.root.row rfl (λ h=>hA65 h rfl) p76) rfl kT51 (tp rfl) rfl)<|.nil) [6,7,8,10,50] [(0,4),(2,7),(5,8),(9,5),(45,3)] (λ _ _ st88=>?_)
       refine aHN (st88.hkS (sb:=5) rfl) ?_
       refine aK1 7 ?_
       refine st88.segA 1 [6,7,8,10,51] [(0,4),(2,7),(5,8),(9,5),(45,3)] (λ _ _ st89=>?_)
       refine aHN (st89.hkS (sb:=5) rfl) ?_
       refine aK1 8 ?_
       refine st89.segA 1 [6,7,8,10,11] [(0,4),(2,7),(5,8),(9,5),(45,3)] (λ _ _ st90=>?_)
       refine aHN (st90.hkS (sb:=5) rfl) ?_
       refine aK0 ?_
       refine st90.stG (s:=45) (sb:=5) 8 3 rfl (by simp) (by simp) (by decide) rfl rfl iI iI [6,7,8,10,11] rfl [0,2,9] rfl rfl rfl (λ G91 st91=>?_)
       have st92:=st91.gn
       refine za (wp_seq (wp_seq (wp_region_list ?_)))
       obtain⟨v93,p93,v94,p94,h96⟩:=bsB h84
       refine st92.segB 9 (sP 1 (r:=by exact sc rfl (oK (qz p93))<|sP 3 (r:=by exact sg rfl rfl (λ hg=>oK (ZZ (gh hg p94)))<|sP 1 (r:=by exact sg rfl rfl (λ hg=>oM rfl (zn hg rfl))<|sgg rfl rfl (λ hg=>oM rfl (zR rfl))<|.nil)))) [6,7,8,10,11,55,59,60] [(0,4),(2,7),(5,8),(9,5)] (λ _ _ st97=>?_)
       obtain⟨v99,p99,h100⟩:=bs h96
       refine st97.cSFhB (sb:=0) (l:=[.const (.int .i64 2)]) 4 rfl iI rfl rfl rfl kN75 (λ hg=>(st97.st.has 60 _ rfl).1 hg) (by simp) (λ hg=>(.cons cI .nil)) (λ hg=>zF (gh hg p99)) [6,7,8,10,11,55,59] rfl [2,5,9] rfl rfl (by decide) (λ _ _ _ _ st98=>?_)
       have st101:=st98.gn
       refine st101.segB 3 (sgg rfl rfl (λ hg=>oCI rfl (zn hg rfl) cI)<|sg rfl rfl (λ hg=>xe rfl (zn hg rfl) (JO hg rfl))<|segC) [6,7,8,10,11,64] [(0,4),(2,7),(5,8),(9,5)] (λ _ _ st102=>wpList_nil (za ?_))
       refine st102.cs rfl h100 (λ _ h103=>wp_exit (zh (zy ?_))) (λ _ h104=>wp_skip (za (wp_region_list ?_)))
       ·
        have st105:=st102.unm (s:=5) 8 rfl rfl iI [0,2,9] rfl
        refine za ?_
        cases h103
        exact fx
       refine st102.nmR (s:=9) 5 rfl rfl iI [0,2,5] rfl (λ g106 A106 _ hA106 st106=>?_)
       refine st106.segB 3 (sc rfl (oM rfl (tp rfl))<|sc rfl (oM rfl (zR rfl))<|sc rfl (yq (opds:=[.const (.int .i64 0),.const (.int .i64 0),.const (.int .i64 2)]) rfl kS26 kY26 rfl rfl (by decide) (.cons cI (.cons cI (.cons cI .nil))))<|.nil) [6,7,8,10,11,66,67] [(0,4),(2,7),(5,8),(9,5),(65,5)] (λ _ _ st107=>?_)
       obtain⟨v109,p109,h110⟩:=bs h104
       refine st107.cSF (l:=[.tmp 67]) 4 (st107.bkN (s:=0) rfl iI) rfl rfl kN62 (Eq.trans (st107.st.has 66 _ rfl) (st107.st.has 0 _ rfl).1.symm) (by simp) (.cons (tp rfl) .nil) (xw p109) [6,7,8,10,11] rfl [2,5,9,65] rfl rfl (by decide) (λ G108 _ _ _ st108=>?_)
       have st111:=st108.gs (Gs':=[q58_0,q58_1,q58_2,oneB none,G108,q58_5,q58_6,q58_7,G91]) rfl
       refine st111.seg 3 (
          sc rfl (oM rfl (tp rfl))<|sc rfl (kD74_0_1 rfl (tp rfl) (tp rfl))<|sc rfl (yq (opds:=[.tmp 70]) rfl kS49 kY49 rfl rfl (by decide) (.cons (tp rfl) .nil))<|.nil) [6,7,8,10,71] rfl [(0,4),(2,7),(5,8),(9,5),(65,5)] rfl ⟨iI,⟨iI,⟨iI,⟨iI,iT⟩⟩⟩⟩ (λ _ _ st112=>?_)
       have st114:=st112.unm (s:=65) 5 rfl rfl iI [0,2,5] rfl
       refine st114.tipR (s:=65) 5 rfl rfl (by simp) iI [0,2,5] rfl rfl (λ g115 st115=>?_)
       obtain⟨v117,p117,h118⟩:=bs h110
       refine st115.apA 5 yS p117 [6,7,8,10] [0,2,5] (λ g116 _ _ _ st116=>?_)
       have st119:=st116.gn
       refine st119.segA 1 [6,7,8,10] [(0,4),(2,7),(5,8),(9,5)] (λ _ _ st120=>wpList_nil (zf ?_))
       have st121:=st120.unm (s:=5) 8 rfl rfl iI [0,2,9] rfl
       have st122:=st121.tipW (s:=9) 5 rfl rfl iI [0,2,5] rfl
       refine za ?_
       cases h118
       exact fx
      rintro a63 w63 ⟨M63,q63_0,q63_1,q63_2,q63_3,q63_4,q63_5,q63_6,q63_7,q63_8,st63⟩
      have h123:=k63
      obtain⟨v124,p124,h125⟩:=bs h123
      refine st63.rgA [6,7,8,10] [(0,4),(2,7),(5,8),(9,5)] (λ _ _ st126=>za ?_)
      exact fl h125
     refine za ?_
     have h127:=lo h62 hx58
     cases h127
     exact fx
    rintro a49 w49 ⟨M49,q49_0,q49_1,q49_2,q49_3,q49_4,q49_5,q49_6,q49_7,q49_8,st49⟩
    have h128:=k49
    have st129:=st49.frzW (s:=9) 5 rfl (by simp) iI [6,7,8] rfl [0,2,5] rfl rfl
    refine wp_region_list ?_
    obtain⟨v132,p132,h133⟩:=bs h128
    refine st129.nmB (s:=5) 8 rfl rfl iI [0,2] rfl (λ b130 st130=>?_)
    refine st130.hdA 5 8 ((PV.root.box rfl).fld owTree.f0) [0,2] (λ g131 A131 _ hA131 st131=>?_)
    refine st131.segB 6 (sc rfl (xFa rfl qg (zR rfl))<|sc rfl (xLc (sb:=5) (.head _) rfl rfl rfl kT23 (tp rfl) rfl)<|sP 2 (r:=by exact sc rfl (xIa (g:=g131) rfl kS23 (tp rfl) (tp rfl) rfl (λ h=>hA131 h rfl) p132)<|segC)) [6,7,8,76,78] [(0,4),(2,7),(5,8)] (λ _ _ st134=>?_)
    refine st134.sfA 5 8 ((((PV.root.box rfl).fld owTree.f0).row (.head _) rfl (λ h=>hA131 h rfl) p132).fld File.z5) (tp rfl) (tp rfl) [6,7,8] [0,2] (λ _ st135=>wpList_nil (zf ?_))
    have st136:=st135.unm (s:=5) 8 rfl rfl iI [0,2] rfl
    refine za ?_
    cases h133
    exact fx
   rintro a43 w43 ⟨M43,q43_0,q43_1,q43_2,q43_3,q43_4,q43_5,q43_6,q43_7,q43_8,st43⟩
   have h137:=k43
   obtain⟨v138,p138,h139⟩:=bs h137
   refine st43.rgA [6,7,8] [(0,4),(2,7),(5,8)] (λ _ _ st140=>za ?_)
   exact fl h139
  refine wp_exit (zh (zh (zy ?_)))
  have st141:=st40.unm (s:=5) 8 rfl rfl iI [0,2] rfl
  refine za ?_
  have h142:=lo h42 hx35
  cases h142
  exact fx
 rintro a31 w31 ⟨M31,q31_0,q31_1,q31_2,q31_3,q31_4,q31_5,q31_6,q31_7,q31_8,st31⟩
 have h143:=k31
 refine wp_seq (wp_region_list ?_)
 refine st31.nmB (s:=5) 8 rfl rfl iI [0,2] rfl (λ b145 st145=>?_)
 refine st145.ldW (sb:=5) 8 rfl rfl kT25 rfl (by simp) iI [6,7] rfl [0,2] rfl rfl (λ _ _ st144=>?_)
 refine st144.segA 2 [80,81] [(0,4),(2,7),(79,8)] (λ _ _ st146=>?_)
 refine st146.nmB (s:=2) 7 rfl rfl iI [0,79] rfl (λ b148 st148=>?_)
 refine st148.stO (sb:=2) (tv:=79) 7 8 (PV.root.box rfl) rfl rfl rfl kT25 (by simp) (by simp) (by decide) (zR rfl) rfl rfl rfl iI iI [80,81] rfl [0] rfl rfl rfl (λ _ _ st147=>?_)
 have st149:=st147.gn
 refine st149.segA 2 [3,4] [(0,4),(2,7)] (λ _ _ st150=>wpList_nil (za (wp_ret ?_)))
 obtain rfl:=Option.some.inj h143
 exact st150.rs3O (s:=0) 4 7 rfl kT25 rfl rfl rfl rfl ⟨rfl,rfl⟩ iI iI (by decide) ⟨rfl,rfl⟩
open Go.RowKit Tryz
set_option maxRecDepth 10000
set_option maxHeartbeats 1600000
theorem kN31:fnB prog 31=true:=by kernel_rfl
theorem kN47:fnB prog 47=true:=by kernel_rfl
def wC(x0:List UInt8):Option (Tree×(List Int)×Str):=
(qK x0).bind λ v6=>
(ZD v6).bind λ v9=>
some (v9.2.1,v9.2.2.1,v9.2.2.2)
theorem JM{x0:List UInt8}{r:Tree×(List Int)×Str}(h:wC x0=some r):Fn prog 18 [dt x0] (dtup [dt r.1,dt r.2.1,dt r.2.2]):=by
 unfold wC at h
 refine fnx (fn:=f18) 2 func18 rfl (oD rfl) rfl (λ M _ _ st0=>wp_seq (wp_region_list ?_))
 refine st0.alA 1 zrTree [0] [] (λ b2 _ _ _ st2=>?_)
 refine st2.segB 2 (sc rfl (oA rfl (x8 (α:=Int)))<|segC) [0] [(2,1)] (λ _ _ st3=>wpList_nil (za (wp_seq (wp_region_list ?_))))
 refine st3.segA 1 [5] [(2,1)] (λ _ _ st4=>?_)
 obtain⟨v6,p6,h7⟩:=bs h
 refine st4.cN (l:=[.tmp 5]) 0 rfl rfl kN31 (.cons (tp rfl) .nil) (zb2 p6) (by simp) [] rfl [2] rfl rfl (λ _ _ _ _ st5=>?_)
 obtain⟨v9,p9,h10⟩:=bs h7
 refine st5.cSF (l:=[]) 0 (st5.bkR (s:=6) rfl iI) rfl rfl kN47 rfl (by simp) .nil ((FnS.frz3 (zc7 p9))) [] rfl [2] rfl rfl (by decide) (λ _ _ _ _ st8=>?_)
 refine st8.segA 3 [8,9,10] [(2,1)] (λ _ _ st11=>?_)
 refine st11.stA 2 1 FldS.id (tp rfl) [9,10] [] (λ _ _ st13=>?_)
 refine st13.segA 2 [3,4] [(2,1)] (λ _ _ st14=>wpList_nil (za (wp_ret ?_)))
 obtain rfl:=Option.some.inj h10
 exact st14.ret3c rfl kT25 rfl (st14.frozen (t:=3) rfl) (st14.frozen (t:=4) rfl) ⟨rfl,rfl⟩ rfl
end Go.Proofs.YtpmkkijamfgaeaaGreatDoor
