import Derived.Test.YtpmkkijamfgaeaaGreatDoorRB
import Derived.Test.YtpmkkijamfgaeaaGreatDoorRO
import Derived.Test.YtpmkkijamfgaeaaGreatDoorRKb
namespace Go.Proofs.YtpmkkijamfgaeaaGreatDoor
open Go.RowKit Tryz
attribute [local irreducible] OpRel OpdR
set_option maxRecDepth 10000
set_option maxHeartbeats 1600000
theorem kN128:fnB prog 128=true:=by kernel_rfl
instance iF25_0KxH:FldO prog 25 0 0:=⟨qR⟩
instance iF51_0KxH:FldO prog 51 0 0:=⟨kF51_0⟩
instance iF51_4KxH:FldO prog 51 4 4:=⟨kF51_4⟩
instance iF51_5KxH:FldO prog 51 5 5:=⟨kF51_5⟩
def q5(x0:Reader):Option (Reader×Tree):=
(qz x0).bind λ v6=>
Option.bind (α:=Reader×Tree) (if(cmpI .gtr (v6.2.files.length:Int) (0:Int))=true then((zD v6.1 (24:Int)).bind λ v21=>
if(cmpI .eql v21.2 (0:Int))=true then((atI v6.2.files (0:Int)).bind λ v31=>
(appO 80 v6.2.files ([v31]:List File)).bind λ v39=>
some (v21.1,(⟨v39⟩:Tree)))
else(if(cmpI .eql v21.2 (1:Int))=true then((yp v21.1 ([(-1:Int),(3:Int)]:List Int)).bind λ v59=>
(atI v6.2.files (0:Int)).bind λ v62=>
some (v59.1,(⟨(v6.2.files.set (0:Int).toNat ({ v62 with root:=v59.2 }))⟩:Tree)))
else(if(cmpI .eql v21.2 (2:Int))=true then((yp v21.1 ([(-1:Int),(100:Int)]:List Int)).bind λ v89=>
(atI v6.2.files (0:Int)).bind λ v92=>
some (v89.1,(⟨(v6.2.files.set (0:Int).toNat ({ v92 with stamp:=v89.2 }))⟩:Tree)))
else(if(cmpI .eql v21.2 (3:Int))=true then((atI v6.2.files (0:Int)).bind λ v119=>
(appO 56 v119.body ([(⟨(9:Int),⟨[]⟩,0,⟨[]⟩,0⟩:Stmt)]:List Stmt)).bind λ v130=>
(atI v6.2.files (0:Int)).bind λ _v133=>
some (v21.1,(⟨(v6.2.files.set (0:Int).toNat ({ v119 with body:=v130 }))⟩:Tree)))
else(some (v21.1,v6.2))))))
else(some (v6.1,v6.2))) λ o13=>
some (o13.1,o13.2)
theorem zcf{x0:Reader}{r:Reader×Tree}(h:q5 x0=some r):FnS prog 74 (Ow.box (Ow.frz (α:=Reader))) ⟨x0⟩ [] ⟨r.1⟩ (.frz (dt r.2)):=by
 unfold q5 at h
 refine fnSB (fn:=f74) 4 9 func74 rfl (oD rfl) rfl (λ M G w0 b0 _ st0=>wp_seq (wp_region_list ?_))
 refine st0.alA 7 zrTree [] [0] (λ b2 _ _ _ st2=>?_)
 have st3:=st2.gn
 refine wpList_nil (za (wp_seq (wp_region_list ?_)))
 refine st3.segC 1 [4] [(0,4),(2,7)] (λ _ _ st4=>?_)
 obtain⟨v6,p6,h7⟩:=bs h
 refine st4.cSO (l:=[]) 4 0 (st4.bkN (s:=0) rfl iI) rfl rfl kN128 (Eq.trans (st4.st.has 4 _ rfl) (st4.st.has 0 _ rfl).1.symm) (by simp) (by simp) (by decide) .nil (zbQ p6) [] rfl [2] rfl rfl rfl rfl (by decide) (λ _ H5 _ _ _ st5=>?_)
 have st8:=st5.gn
 refine st8.alcW (ow:=(owTree (Ow.row 51 (owFile (Ow.row 74 (Ow.frz (α:=Stmt))))))) 8 rfl rfl kZ25 (owTree.z Ow.row_z) (by simp) [] rfl [0,2,5] rfl rfl (λ b9 _ _ _ st9=>?_)
 have st10:=st9.gn
 refine st10.stO (sb:=3) (tv:=5) 8 0 (PV.root.box rfl) rfl rfl rfl kT25 (by simp) (by simp) (by decide) (zQ rfl) rfl rfl rfl iI iI [] rfl [0,2] rfl rfl rfl (λ G11 _ st11=>?_)
 have st12:=st11.gn
 refine wpList_nil (za ?_)
 obtain⟨o13,p13,k13⟩:=bs h7
 refine zj (λ a w=>∃ M1 q13_0 q13_1 q13_2 q13_3 q13_4 q13_5 q13_6 q13_7 q13_8,Sx (Frm.chg w0 G) 56 M M1 [q13_0,q13_1,q13_2,q13_3,q13_4,q13_5,q13_6,oneB q13_7,q13_8] [(3,dptr o13.2)] [(2,7,dbox q13_7 0 zTree),(0,4,dnm (Ow.box (Ow.frz (α:=Reader))) q13_4 ⟨o13.1⟩ (.pointer (some ⟨b0,0,none⟩)) [])] a w) ?_ ?_
 ·
  refine st12.hdA 3 8 ((PV.root.box rfl).fld owTree.f0) [0,2] (λ g14 A14 _ hA14 st14=>?_)
  refine st14.sqB (sc rfl (xFa rfl qR (zQ rfl))<|sc rfl (xLc (sb:=3) (.head _) rfl rfl rfl kT23 (tp rfl) rfl)<|sc rfl (xLe rfl kL23 (tp rfl))<|segC) [9] [(0,4),(2,7),(3,8)] (λ _ _ st15=>?_)
  have st16:=st15.ncf (s:=3) 8 rfl rfl iI [0,2] rfl
  refine st16.cs rfl p13 (λ _ h17=>wp_seq (wp_region_list ?_)) (λ _ h18=>?_)
  ·
   refine st16.segC 1 [10] [(0,4),(2,7),(3,8)] (λ _ _ st19=>?_)
   obtain⟨v21,p21,h22⟩:=bs h17
   refine st19.cNA 4 0 (zK p21) [] [2,3] (λ G20 _ _ _ st23=>wpList_nil (za (wp_block ?_)))
   refine st23.sqA [11,12] [(0,4),(2,7),(3,8)] (λ _ _ st24=>?_)
   refine st24.cs rfl h22 (λ _ h25=>?_) (λ _ h26=>?_)
   ·
    have st27:=st24.unm (s:=3) 8 rfl rfl iI [0,2] rfl
    refine st27.thin (s:=3) (o2:=(Ow.box (owTree (Ow.row 51 (Ow.frz (α:=File)))))) 8 (thin_box (thin_via thin_row)) rfl rfl (by simp) iI [11,12] rfl [0,2] rfl rfl (λ _ _ st28=>?_)
    obtain⟨v31,p31,h32⟩:=bs h25
    refine st28.nmB (s:=3) 8 rfl rfl iI [0,2] rfl (λ b29 st29=>?_)
    refine st29.hdA 3 8 ((PV.root.box rfl).fld owTree.f0) [0,2] (λ g30 A30 _ hA30 st30=>?_)
    refine st30.drnA (D:=[_,_,_,_,_,_,_]) zH 7 [[(3,nS)],[(14,0),(3,nS)],[(3,nS)],[(16,2),(3,nS)],[(17,3)],[(18,4),(3,nS)],[(19,5)],[(15,1),(20,6)],[(3,nS)],[(22,8),(21,7)]] [15,20] [(0,4),(2,7),(3,8)] (λ _ _ st33=>?_) (hs:=rc rfl rfl (xFa rfl qR (zQ rfl))<|rc rfl rfl (xLc (sb:=3) (.head _) rfl rfl rfl kT23 (tp rfl) rfl)<|rc rfl rfl (xFa rfl qR (zQ rfl))<|rc rfl rfl (xLc (sb:=3) (.head _) rfl rfl rfl kT23 (tp rfl) rfl)<|rc rfl rfl (xIa (g:=g30) rfl kS23 (tp rfl) cI rfl (λ h=>hA30 h rfl) p31)<|rc rfl rfl (xLf (sb:=3) (((PV.root.box rfl).fld owTree.f0).row (.head _) rfl (λ h=>hA30 h rfl) p31) rfl kT51 (tp rfl) rfl)<|regA)
    refine st33.mvG (s:=15) (sb:=3) 8 1 ((PV.root.box rfl).fld owTree.f0) (.head _) rfl (ym rfl rfl) rfl (by simp) (by simp) (by decide) rfl iI [20] rfl [0,2] rfl rfl rfl rfl (λ G35 H35 st35=>?_)
    have st36:=st35.gs (Gs':=[oneB none,H35,oneB none,oneB none,G20,oneB none,oneB none,oneB (some b2),G35]) rfl
    refine st36.tipR (s:=15) 1 rfl rfl (by simp) iI [0,2,3] rfl rfl (λ g37 st37=>?_)
    obtain⟨v39,p39,h40⟩:=bs h32
    refine st37.apA 1 yW p39 [] [0,2,3] (λ g38 _ _ _ st38=>?_)
    have st41:=st38.gn
    refine st41.segB 1 (sc rfl (xFa rfl qR (opd_hl rfl))<|.nil) [22] [(0,4),(2,7),(3,8),(21,1)] (λ _ _ st42=>?_)
    have st44:=st42.tipW (s:=21) 1 rfl rfl iI [0,2,3] rfl
    refine st44.shA 3 21 8 1 (tp rfl) [] [0,2] (λ _ _ st43=>?_)
    have st45:=st43.gn
    refine wpList_nil (zf ?_)
    have st46:=st45.unm (s:=3) 8 rfl rfl iI [0,2] rfl
    have st47:=st46.frzB (s:=3) 8 rfl (by simp) iI [] rfl [0,2] rfl rfl
    refine za ?_
    cases h40
    exact fx
   refine st24.sqA [11,23] [(0,4),(2,7),(3,8)] (λ _ _ st48=>?_)
   refine st48.cs rfl h26 (λ _ h49=>?_) (λ _ h50=>?_)
   ·
    refine st48.hdA 3 8 ((PV.root.box rfl).fld owTree.f0) [0,2] (λ g51 A51 c51 hA51 st51=>?_)
    refine st51.held (λ w=>w.cell? ⟨b9,0,none⟩=some (.slice A51 (v6.2.files.length) c51)) zH (λ _ st52=>?_)
    refine st52.tk (i:=0) rfl rfl (by decide +kernel) (by decide +kernel) (by decide +kernel) (λ _ _ _ h=>h) (st52.cellS (sb:=3) rfl (.head _) rfl rfl) (yFa rfl qR (st52.st.has 3 _ rfl).1) (λ _ st53=>?_)
    refine st53.tk (i:=1) rfl rfl (by decide +kernel) (by decide +kernel) (by decide +kernel) (λ _ _ _ h=>h) (st53.cellS (sb:=3) rfl (.head _) rfl rfl) (yLd rfl kT23 (st53.st.has 25 _ rfl) (λ _ h=>h)) (λ _ st54=>?_)
    refine st54.tN 2 0 (st54.cellS (sb:=3) rfl (.head _) rfl rfl) (λ _ st55=>?_)
    refine st55.mvN (s:=26) (sb:=3) 8 2 ((PV.root.box rfl).fld owTree.f0) (.head _) rfl (ym rfl rfl) rfl rfl (by simp) (by simp) (by decide) rfl iI [11,23,25,27] rfl [0,2] rfl rfl rfl rfl (by decide) (λ G56 H56 st56=>?_)
    obtain⟨v59,p59,v62,p62,h67⟩:=bsB h49
    refine aK1 3 ?_
    refine st56.segB 1 (sc rfl (yw (opds:=[.const (.int .i64 (-1)),.const (.int .i64 3)]) rfl kS26 kY26 rfl rfl (by decide) (.cons cI (.cons cI .nil)))<|.nil) [27,28] [(0,4),(2,7),(3,8),(26,2)] (λ _ _ st68=>?_)
    refine aHN (st68.hkS (sb:=3) rfl) ?_
    refine aK1 4 ?_
    refine st68.cNA 4 0 (xM p59) [] [2,3,26] (λ G69 _ _ _ st70=>?_)
    refine aHN (st70.hkS (sb:=3) rfl) ?_
    refine aK1 5 ?_
    refine st70.segB 1 (sc rfl (xIaN rfl kS23 rfl cI (λ h=>hA51 h rfl) p62)<|.nil) [29,30] [(0,4),(2,7),(3,8),(26,2)] (λ _ _ st71=>?_)
    refine aHN (st71.hkS (sb:=3) rfl) ?_
    refine aK1 6 ?_
    refine st71.segC 1 [29,31] [(0,4),(2,7),(3,8),(26,2)] (λ _ _ st72=>?_)
    refine aHN (st72.hkS (sb:=3) rfl) ?_
    refine aK1 7 ?_
    refine st72.sfA 26 2 ((PV.root.row rfl (λ h=>hA51 h rfl) p62).fld owFile.f0) (tp rfl) (tp rfl) [] [0,2,3] (λ _ st73=>?_)
    refine aHN (st73.hkS (sb:=3) rfl) ?_
    refine aK0 ?_
    refine st73.stG (s:=26) (sb:=3) 8 2 rfl (by simp) (by simp) (by decide) rfl rfl iI iI [] rfl [0,2] rfl rfl rfl (λ _ st74=>?_)
    have st75:=st74.gn
    refine zf ?_
    have st76:=st75.unm (s:=3) 8 rfl rfl iI [0,2] rfl
    have st77:=st76.frzB (s:=3) 8 rfl (by simp) iI [] rfl [0,2] rfl rfl
    refine za ?_
    cases h67
    exact fx
   refine st48.sqA [11,32] [(0,4),(2,7),(3,8)] (λ _ _ st78=>?_)
   refine st78.cs rfl h50 (λ _ h79=>?_) (λ _ h80=>?_)
   ·
    refine st78.hdA 3 8 ((PV.root.box rfl).fld owTree.f0) [0,2] (λ g81 A81 c81 hA81 st81=>?_)
    refine st81.held (λ w=>w.cell? ⟨b9,0,none⟩=some (.slice A81 (v6.2.files.length) c81)) zH (λ _ st82=>?_)
    refine st82.tk (i:=0) rfl rfl (by decide +kernel) (by decide +kernel) (by decide +kernel) (λ _ _ _ h=>h) (st82.cellS (sb:=3) rfl (.head _) rfl rfl) (yFa rfl qR (st82.st.has 3 _ rfl).1) (λ _ st83=>?_)
    refine st83.tk (i:=1) rfl rfl (by decide +kernel) (by decide +kernel) (by decide +kernel) (λ _ _ _ h=>h) (st83.cellS (sb:=3) rfl (.head _) rfl rfl) (yLd rfl kT23 (st83.st.has 34 _ rfl) (λ _ h=>h)) (λ _ st84=>?_)
    refine st84.tN 2 0 (st84.cellS (sb:=3) rfl (.head _) rfl rfl) (λ _ st85=>?_)
    refine st85.mvN (s:=35) (sb:=3) 8 3 ((PV.root.box rfl).fld owTree.f0) (.head _) rfl (ym rfl rfl) rfl rfl (by simp) (by simp) (by decide) rfl iI [11,32,34,36] rfl [0,2] rfl rfl rfl rfl (by decide) (λ G86 H86 st86=>?_)
    obtain⟨v89,p89,v92,p92,h97⟩:=bsB h79
    refine aK1 3 ?_
    refine st86.segB 1 (sc rfl (yw (opds:=[.const (.int .i64 (-1)),.const (.int .i64 100)]) rfl kS26 kY26 rfl rfl (by decide) (.cons cI (.cons cI .nil)))<|.nil) [36,37] [(0,4),(2,7),(3,8),(35,3)] (λ _ _ st98=>?_)
    refine aHN (st98.hkS (sb:=3) rfl) ?_
    refine aK1 4 ?_
    refine st98.cNA 4 0 (xM p89) [] [2,3,35] (λ G99 _ _ _ st100=>?_)
    refine aHN (st100.hkS (sb:=3) rfl) ?_
    refine aK1 5 ?_
    refine st100.segB 1 (sc rfl (xIaN rfl kS23 rfl cI (λ h=>hA81 h rfl) p92)<|.nil) [38,39] [(0,4),(2,7),(3,8),(35,3)] (λ _ _ st101=>?_)
    refine aHN (st101.hkS (sb:=3) rfl) ?_
    refine aK1 6 ?_
    refine st101.segC 1 [38,40] [(0,4),(2,7),(3,8),(35,3)] (λ _ _ st102=>?_)
    refine aHN (st102.hkS (sb:=3) rfl) ?_
    refine aK1 7 ?_
    refine st102.sfA 35 3 ((PV.root.row rfl (λ h=>hA81 h rfl) p92).fld owFile.f4) (tp rfl) (tp rfl) [] [0,2,3] (λ _ st103=>?_)
    refine aHN (st103.hkS (sb:=3) rfl) ?_
    refine aK0 ?_
    refine st103.stG (s:=35) (sb:=3) 8 3 rfl (by simp) (by simp) (by decide) rfl rfl iI iI [] rfl [0,2] rfl rfl rfl (λ _ st104=>?_)
    have st105:=st104.gn
    refine zf ?_
    have st106:=st105.unm (s:=3) 8 rfl rfl iI [0,2] rfl
    have st107:=st106.frzB (s:=3) 8 rfl (by simp) iI [] rfl [0,2] rfl rfl
    refine za ?_
    cases h97
    exact fx
   refine st78.sqA [41] [(0,4),(2,7),(3,8)] (λ _ _ st108=>?_)
   refine st108.cs rfl h80 (λ _ h109=>?_) (λ _ h110=>?_)
   ·
    refine st108.hdA 3 8 ((PV.root.box rfl).fld owTree.f0) [0,2] (λ g111 A111 c111 hA111 st111=>?_)
    refine st111.held (λ w=>w.cell? ⟨b9,0,none⟩=some (.slice A111 (v6.2.files.length) c111)) zH (λ _ st112=>?_)
    refine st112.tk (i:=0) rfl rfl (by decide +kernel) (by decide +kernel) (by decide +kernel) (λ _ _ _ h=>h) (st112.cellS (sb:=3) rfl (.head _) rfl rfl) (yFa rfl qR (st112.st.has 3 _ rfl).1) (λ _ st113=>?_)
    refine st113.tk (i:=1) rfl rfl (by decide +kernel) (by decide +kernel) (by decide +kernel) (λ _ _ _ h=>h) (st113.cellS (sb:=3) rfl (.head _) rfl rfl) (yLd rfl kT23 (st113.st.has 43 _ rfl) (λ _ h=>h)) (λ _ st114=>?_)
    refine st114.tk (i:=2) rfl rfl (by decide +kernel) (by decide +kernel) (by decide +kernel) (λ _ _ _ h=>h) (st114.cellS (sb:=3) rfl (.head _) rfl rfl) (yFa rfl qR (st114.st.has 3 _ rfl).1) (λ _ st115=>?_)
    refine st115.tk (i:=3) rfl rfl (by decide +kernel) (by decide +kernel) (by decide +kernel) (λ _ _ _ h=>h) (st115.cellS (sb:=3) rfl (.head _) rfl rfl) (yLd rfl kT23 (st115.st.has 45 _ rfl) (λ _ h=>h)) (λ _ st116=>?_)
    refine st116.tkB (i:=7) (parts:=[(0,.const (.int .i64 9))]) (ns:=[1,1,1,1,1]) (zs:=Qz) rfl rfl (by decide +kernel) (by decide +kernel) (by decide +kernel) (λ _ _ _ _ h=>h) (st116.cellS (sb:=3) rfl (.head _) rfl rfl) rfl rfl kB74 kC74 (λ w a hl=>by
 intro p hp;simp only[List.mem_cons,List.not_mem_nil,or_false] at hp
 rcases hp with rfl
 ·
  exact⟨by decide,rfl⟩) (λ w a hl=>Stmt.parts (x:=(⟨(9:Int),⟨[]⟩,0,⟨[]⟩,0⟩:Stmt)) (OpdR.cells cI hl) jv ⟨rfl,trivial⟩ jv ⟨rfl,trivial⟩) (λ _ st117=>?_)
    refine st117.mvN (s:=46) (sb:=3) 8 5 ((PV.root.box rfl).fld owTree.f0) (.head _) rfl (ym rfl rfl) rfl rfl (by simp) (by simp) (by decide) rfl iI [41,43,44,45,50] rfl [0,2] rfl rfl rfl rfl (by decide) (λ G118 H118 st118=>?_)
    obtain⟨v119,p119,v130,p130,v133,p133,h141⟩:=bsC h109
    refine aK2 4 8 ?_ ?_
    ·
     refine st118.segB 1 (sc rfl (xIaN rfl kS23 rfl cI (λ h=>hA111 h rfl) p119)<|.nil) [44,47,50] [(0,4),(2,7),(3,8),(46,5)] (λ _ _ st142=>?_)
     refine aHN (st142.hkS (sb:=3) rfl) ?_
     refine aK2 5 8 ?_ ?_
     ·
      refine st142.segC 1 [44,48,50] [(0,4),(2,7),(3,8),(46,5)] (λ _ _ st143=>?_)
      refine aHN (st143.hkS (sb:=3) rfl) ?_
      refine aK2 6 8 ?_ ?_
      ·
       refine st143.hdA 46 5 ((PV.root.row rfl (λ h=>hA111 h rfl) p119).fld owFile.f5) [0,2,3] (λ g144 A144 _ hA144 st144=>?_)
       refine st144.segB 1 (sc rfl (xLc (sb:=46) (.head _) rfl rfl rfl kT49 (tp rfl) rfl)<|.nil) [44,49,50] [(0,4),(2,7),(3,8),(46,5)] (λ _ _ st145=>?_)
       refine aHN (st145.hkS (sb:=3) rfl) ?_
       refine aK1 8 ?_
       refine st145.segC 1 [44,49,51] [(0,4),(2,7),(3,8),(46,5)] (λ _ _ st146=>?_)
       refine aHN (st146.hkS (sb:=3) rfl) ?_
       refine aK1 9 ?_
       refine st146.mvG (s:=49) (sb:=46) 5 6 ((PV.root.row rfl (λ h=>hA111 h rfl) p119).fld owFile.f5) (.head _) rfl (ym rfl rfl) rfl (by simp) (by simp) (by decide) rfl iI [44,51] rfl [0,2,3] rfl rfl rfl rfl (λ G148 H148 st148=>?_)
       have st149:=st148.gs (Gs':=[oneB none,oneB none,oneB none,oneB none,G20,G148,H148,oneB (some b2),G118]) rfl
       refine st149.tipR (s:=49) 6 rfl rfl (by simp) iI [0,2,3,46] rfl rfl (λ g150 st150=>?_)
       refine st150.apA 6 yW p130 [44] [0,2,3,46] (λ g151 _ _ _ st151=>?_)
       have st152:=st151.gn
       refine aHN (st152.hkS (sb:=3) rfl) ?_
       refine aK1 10 ?_
       refine st152.segB 1 (sc rfl (xIa (g:=g111) rfl kS23 (tp rfl) cI rfl (λ h=>hA111 h rfl) p133)<|.nil) [53] [(0,4),(2,7),(3,8),(46,5),(52,6)] (λ _ _ st153=>?_)
       refine aHN (st153.hkS (sb:=3) rfl) ?_
       refine aK1 11 ?_
       refine st153.segC 1 [54] [(0,4),(2,7),(3,8),(46,5),(52,6)] (λ _ _ st154=>?_)
       refine aHN (st154.hkS (sb:=3) rfl) ?_
       refine aK1 12 ?_
       have st156:=st154.tipW (s:=52) 6 rfl rfl iI [0,2,3,46] rfl
       refine st156.shA 46 52 5 6 (tp rfl) [] [0,2,3] (λ _ _ st155=>?_)
       have st157:=st155.gn
       refine aHN (st157.hkS (sb:=3) rfl) ?_
       refine aK0 ?_
       refine st157.stG (s:=46) (sb:=3) 8 5 rfl (by simp) (by simp) (by decide) rfl rfl iI iI [] rfl [0,2] rfl rfl rfl (λ _ st158=>?_)
       have st159:=st158.gn
       refine zf ?_
       have st160:=st159.unm (s:=3) 8 rfl rfl iI [0,2] rfl
       have st161:=st160.frzB (s:=3) 8 rfl (by simp) iI [] rfl [0,2] rfl rfl
       refine za ?_
       cases h141
       exact fx
      ·
       refine st143.segC 1 [44,48,51] [(0,4),(2,7),(3,8),(46,5)] (λ _ _ st162=>?_)
       refine aHN (st162.hkS (sb:=3) rfl) ?_
       refine aK1 6 ?_
       refine st162.hdA 46 5 ((PV.root.row rfl (λ h=>hA111 h rfl) p119).fld owFile.f5) [0,2,3] (λ g163 A163 _ hA163 st163=>?_)
       refine st163.segB 1 (sc rfl (xLc (sb:=46) (.head _) rfl rfl rfl kT49 (tp rfl) rfl)<|.nil) [44,49,51] [(0,4),(2,7),(3,8),(46,5)] (λ _ _ st164=>?_)
       refine aHN (st164.hkS (sb:=3) rfl) ?_
       refine aK1 9 ?_
       refine st164.mvG (s:=49) (sb:=46) 5 6 ((PV.root.row rfl (λ h=>hA111 h rfl) p119).fld owFile.f5) (.head _) rfl (ym rfl rfl) rfl (by simp) (by simp) (by decide) rfl iI [44,51] rfl [0,2,3] rfl rfl rfl rfl (λ G166 H166 st166=>?_)
       have st167:=st166.gs (Gs':=[oneB none,oneB none,oneB none,oneB none,G20,G166,H166,oneB (some b2),G118]) rfl
       refine st167.tipR (s:=49) 6 rfl rfl (by simp) iI [0,2,3,46] rfl rfl (λ g168 st168=>?_)
       refine st168.apA 6 yW p130 [44] [0,2,3,46] (λ g169 _ _ _ st169=>?_)
       have st170:=st169.gn
       refine aHN (st170.hkS (sb:=3) rfl) ?_
       refine aK1 10 ?_
       refine st170.segB 1 (sc rfl (xIa (g:=g111) rfl kS23 (tp rfl) cI rfl (λ h=>hA111 h rfl) p133)<|.nil) [53] [(0,4),(2,7),(3,8),(46,5),(52,6)] (λ _ _ st171=>?_)
       refine aHN (st171.hkS (sb:=3) rfl) ?_
       refine aK1 11 ?_
       refine st171.segC 1 [54] [(0,4),(2,7),(3,8),(46,5),(52,6)] (λ _ _ st172=>?_)
       refine aHN (st172.hkS (sb:=3) rfl) ?_
       refine aK1 12 ?_
       have st174:=st172.tipW (s:=52) 6 rfl rfl iI [0,2,3,46] rfl
       refine st174.shA 46 52 5 6 (tp rfl) [] [0,2,3] (λ _ _ st173=>?_)
       have st175:=st173.gn
       refine aHN (st175.hkS (sb:=3) rfl) ?_
       refine aK0 ?_
       refine st175.stG (s:=46) (sb:=3) 8 5 rfl (by simp) (by simp) (by decide) rfl rfl iI iI [] rfl [0,2] rfl rfl rfl (λ _ st176=>?_)
       have st177:=st176.gn
       refine zf ?_
       have st178:=st177.unm (s:=3) 8 rfl rfl iI [0,2] rfl
       have st179:=st178.frzB (s:=3) 8 rfl (by simp) iI [] rfl [0,2] rfl rfl
       refine za ?_
       cases h141
       exact fx
     ·
      refine st142.segC 1 [44,47,51] [(0,4),(2,7),(3,8),(46,5)] (λ _ _ st180=>?_)
      refine aHN (st180.hkS (sb:=3) rfl) ?_
      refine aK1 5 ?_
      refine st180.segC 1 [44,48,51] [(0,4),(2,7),(3,8),(46,5)] (λ _ _ st181=>?_)
      refine aHN (st181.hkS (sb:=3) rfl) ?_
      refine aK1 6 ?_
      refine st181.hdA 46 5 ((PV.root.row rfl (λ h=>hA111 h rfl) p119).fld owFile.f5) [0,2,3] (λ g182 A182 _ hA182 st182=>?_)
      refine st182.segB 1 (sc rfl (xLc (sb:=46) (.head _) rfl rfl rfl kT49 (tp rfl) rfl)<|.nil) [44,49,51] [(0,4),(2,7),(3,8),(46,5)] (λ _ _ st183=>?_)
      refine aHN (st183.hkS (sb:=3) rfl) ?_
      refine aK1 9 ?_
      refine st183.mvG (s:=49) (sb:=46) 5 6 ((PV.root.row rfl (λ h=>hA111 h rfl) p119).fld owFile.f5) (.head _) rfl (ym rfl rfl) rfl (by simp) (by simp) (by decide) rfl iI [44,51] rfl [0,2,3] rfl rfl rfl rfl (λ G185 H185 st185=>?_)
      have st186:=st185.gs (Gs':=[oneB none,oneB none,oneB none,oneB none,G20,G185,H185,oneB (some b2),G118]) rfl
      refine st186.tipR (s:=49) 6 rfl rfl (by simp) iI [0,2,3,46] rfl rfl (λ g187 st187=>?_)
      refine st187.apA 6 yW p130 [44] [0,2,3,46] (λ g188 _ _ _ st188=>?_)
      have st189:=st188.gn
      refine aHN (st189.hkS (sb:=3) rfl) ?_
      refine aK1 10 ?_
      refine st189.segB 1 (sc rfl (xIa (g:=g111) rfl kS23 (tp rfl) cI rfl (λ h=>hA111 h rfl) p133)<|.nil) [53] [(0,4),(2,7),(3,8),(46,5),(52,6)] (λ _ _ st190=>?_)
      refine aHN (st190.hkS (sb:=3) rfl) ?_
      refine aK1 11 ?_
      refine st190.segC 1 [54] [(0,4),(2,7),(3,8),(46,5),(52,6)] (λ _ _ st191=>?_)
      refine aHN (st191.hkS (sb:=3) rfl) ?_
      refine aK1 12 ?_
      have st193:=st191.tipW (s:=52) 6 rfl rfl iI [0,2,3,46] rfl
      refine st193.shA 46 52 5 6 (tp rfl) [] [0,2,3] (λ _ _ st192=>?_)
      have st194:=st192.gn
      refine aHN (st194.hkS (sb:=3) rfl) ?_
      refine aK0 ?_
      refine st194.stG (s:=46) (sb:=3) 8 5 rfl (by simp) (by simp) (by decide) rfl rfl iI iI [] rfl [0,2] rfl rfl rfl (λ _ st195=>?_)
      have st196:=st195.gn
      refine zf ?_
      have st197:=st196.unm (s:=3) 8 rfl rfl iI [0,2] rfl
      have st198:=st197.frzB (s:=3) 8 rfl (by simp) iI [] rfl [0,2] rfl rfl
      refine za ?_
      cases h141
      exact fx
    ·
     refine st118.segC 1 [44,51] [(0,4),(2,7),(3,8),(46,5)] (λ _ _ st199=>?_)
     refine aHN (st199.hkS (sb:=3) rfl) ?_
     refine aK1 4 ?_
     refine st199.segB 1 (sc rfl (xIaN rfl kS23 rfl cI (λ h=>hA111 h rfl) p119)<|.nil) [44,47,51] [(0,4),(2,7),(3,8),(46,5)] (λ _ _ st200=>?_)
     refine aHN (st200.hkS (sb:=3) rfl) ?_
     refine aK1 5 ?_
     refine st200.segC 1 [44,48,51] [(0,4),(2,7),(3,8),(46,5)] (λ _ _ st201=>?_)
     refine aHN (st201.hkS (sb:=3) rfl) ?_
     refine aK1 6 ?_
     refine st201.hdA 46 5 ((PV.root.row rfl (λ h=>hA111 h rfl) p119).fld owFile.f5) [0,2,3] (λ g202 A202 _ hA202 st202=>?_)
     refine st202.segB 1 (sc rfl (xLc (sb:=46) (.head _) rfl rfl rfl kT49 (tp rfl) rfl)<|.nil) [44,49,51] [(0,4),(2,7),(3,8),(46,5)] (λ _ _ st203=>?_)
     refine aHN (st203.hkS (sb:=3) rfl) ?_
     refine aK1 9 ?_
     refine st203.mvG (s:=49) (sb:=46) 5 6 ((PV.root.row rfl (λ h=>hA111 h rfl) p119).fld owFile.f5) (.head _) rfl (ym rfl rfl) rfl (by simp) (by simp) (by decide) rfl iI [44,51] rfl [0,2,3] rfl rfl rfl rfl (λ G205 H205 st205=>?_)
     have st206:=st205.gs (Gs':=[oneB none,oneB none,oneB none,oneB none,G20,G205,H205,oneB (some b2),G118]) rfl
     refine st206.tipR (s:=49) 6 rfl rfl (by simp) iI [0,2,3,46] rfl rfl (λ g207 st207=>?_)
     refine st207.apA 6 yW p130 [44] [0,2,3,46] (λ g208 _ _ _ st208=>?_)
     have st209:=st208.gn
     refine aHN (st209.hkS (sb:=3) rfl) ?_
     refine aK1 10 ?_
     refine st209.segB 1 (sc rfl (xIa (g:=g111) rfl kS23 (tp rfl) cI rfl (λ h=>hA111 h rfl) p133)<|.nil) [53] [(0,4),(2,7),(3,8),(46,5),(52,6)] (λ _ _ st210=>?_)
     refine aHN (st210.hkS (sb:=3) rfl) ?_
     refine aK1 11 ?_
     refine st210.segC 1 [54] [(0,4),(2,7),(3,8),(46,5),(52,6)] (λ _ _ st211=>?_)
     refine aHN (st211.hkS (sb:=3) rfl) ?_
     refine aK1 12 ?_
     have st213:=st211.tipW (s:=52) 6 rfl rfl iI [0,2,3,46] rfl
     refine st213.shA 46 52 5 6 (tp rfl) [] [0,2,3] (λ _ _ st212=>?_)
     have st214:=st212.gn
     refine aHN (st214.hkS (sb:=3) rfl) ?_
     refine aK0 ?_
     refine st214.stG (s:=46) (sb:=3) 8 5 rfl (by simp) (by simp) (by decide) rfl rfl iI iI [] rfl [0,2] rfl rfl rfl (λ _ st215=>?_)
     have st216:=st215.gn
     refine zf ?_
     have st217:=st216.unm (s:=3) 8 rfl rfl iI [0,2] rfl
     have st218:=st217.frzB (s:=3) 8 rfl (by simp) iI [] rfl [0,2] rfl rfl
     refine za ?_
     cases h141
     exact fx
   refine wp_skip (zf ?_)
   have st219:=st108.unm (s:=3) 8 rfl rfl iI [0,2] rfl
   have st220:=st219.frzB (s:=3) 8 rfl (by simp) iI [41] rfl [0,2] rfl rfl
   refine za ?_
   cases h110
   exact fx
  refine wp_skip ?_
  have st221:=st16.unm (s:=3) 8 rfl rfl iI [0,2] rfl
  have st222:=st221.frzB (s:=3) 8 rfl (by simp) iI [9] rfl [0,2] rfl rfl
  refine za ?_
  cases h18
  exact fx
 rintro a13 w13 ⟨M13,q13_0,q13_1,q13_2,q13_3,q13_4,q13_5,q13_6,q13_7,q13_8,st13⟩
 have h223:=k13
 refine wp_seq (wp_region_list ?_)
 refine st13.segA 1 [55] [(0,4),(2,7)] (λ _ _ st224=>?_)
 refine st224.stA 2 7 FldS.id (tp rfl) [] [0] (λ _ _ st226=>wpList_nil (za (wp_ret ?_)))
 exact st226.rsC (s:=0) 4 rfl kT25 rfl rfl iI (bxr h223)
open Go.RowKit Tryz
set_option maxRecDepth 10000
set_option maxHeartbeats 1600000
theorem kN31:fnB prog 31=true:=by kernel_rfl
theorem kN30:fnB prog 30=true:=by kernel_rfl
def ZB(x0:Reader):Option (Reader×Tree×(List Int)×Str):=
(q5 x0).bind λ v6=>
(qZ v6.1).bind λ v15=>
(gO (cmpI .gtr (v6.2.files.length:Int) (0:Int) == true) (zD v15.1 (4:Int))).bind λ v20=>
if(cmpI .gtr (v6.2.files.length:Int) (0:Int)&&cmpI .gtr v20.2 (0:Int))=true then((zD (if(cmpI .gtr (v6.2.files.length:Int) (0:Int) == true)=true then v20.1 else v15.1) (v6.2.files.length:Int)).bind λ v36=>
(atI v6.2.files v36.2).bind λ v38=>
(Z8 v38).bind λ v41=>
some (v36.1,v6.2,v15.2,v41))
else((qY (if(cmpI .gtr (v6.2.files.length:Int) (0:Int) == true)=true then v20.1 else v15.1)).bind λ v76=>
some (v76.1,v6.2,v15.2,v76.2))
theorem spec_nameOf_w{x0:Reader}{r:Reader×Tree×(List Int)×Str}(h:ZB x0=some r):FnS prog 30 (Ow.box (Ow.frz (α:=Reader))) ⟨x0⟩ [] ⟨r.1⟩ (.frz (dtup [dt r.2.1,dt r.2.2.1,dt r.2.2.2])):=by
 unfold ZB at h
 refine fnSB (fn:=f30) 0 3 func30 rfl (oD rfl) rfl (λ M G _ b0 _ st0=>wp_seq (wp_region_list ?_))
 refine st0.alA 1 zrTree [] [0] (λ b2 _ _ _ st2=>?_)
 refine st2.segB 2 (sc rfl (oA rfl (wK (α:=Int)))<|segC) [] [(0,0),(2,1)] (λ _ _ st3=>wpList_nil (za (wp_seq (wp_region_list ?_))))
 refine st3.segC 1 [7] [(0,0),(2,1)] (λ _ _ st4=>?_)
 obtain⟨v6,p6,h7⟩:=bs h
 refine st4.cNA 0 0 (zcf p6) [] [2] (λ _ _ _ _ st5=>?_)
 refine st5.alA 2 zrTree [8] [0,2] (λ b9 _ _ _ st9=>?_)
 refine st9.stA 5 2 FldS.id (tp rfl) [] [0,2] (λ _ _ st11=>?_)
 have st12:=st11.frzX 2 (s:=5) rfl rfl [] rfl [0,2] rfl
 refine wpList_nil (za (wp_seq (wp_region_list ?_)))
 refine st12.segC 1 [5,9] [(0,0),(2,1)] (λ _ _ st13=>?_)
 obtain⟨v15,p15,h16⟩:=bs h7
 refine st13.cNA 0 0 (zcd p15) [5] [2] (λ _ _ _ _ st14=>?_)
 refine st14.segA 1 [5,6] [(0,0),(2,1)] (λ _ _ st17=>wpList_nil (za (wp_seq (wp_seq (wp_region_list ?_)))))
 refine st17.segB 6 (sc rfl (zz Tree.fld0 rfl qR (tp rfl))<|sc rfl (zp rfl kT23 (tp rfl))<|sc rfl (Yy rfl kL23 (tp rfl))<|sc rfl (oCI rfl (tp rfl) cI)<|sc rfl (oM rfl (tp rfl))<|sg rfl rfl (λ hg=>oM rfl (zQ rfl))<|.nil) [5,6,15,16] [(0,0),(2,1)] (λ _ _ st18=>?_)
 obtain⟨v20,p20,h21⟩:=bs h16
 refine st18.cSFgB (sb:=0) (l:=[.const (.int .i64 4)]) 0 rfl iI rfl rfl rfl kN75 (λ hg=>(st18.st.has 16 _ rfl).1 hg) (by simp) (λ hg=>(.cons cI .nil)) (λ hg=>zK (gh hg p20)) [5,6,15] rfl [2] rfl rfl (by decide) (λ _ _ _ _ st19=>?_)
 refine st19.segC 2 [5,6,19] [(0,0),(2,1)] (λ _ _ st22=>wpList_nil (za ?_))
 refine st22.cs rfl h21 (λ _ h23=>wp_seq ?_) (λ _ h24=>wp_skip (za (wp_seq ?_)))
 ·
  refine st22.opn (s:=5) rfl (λ b25 o25 c25 st25=>?_)
  refine st25.held (λ w=>CellsAt w b25 o25 c25) zH (λ _ st26=>?_)
  refine st26.tW 0 5 (λ _ st27=>?_)
  refine st27.tM 1 6 (st27.pkZ 5) (λ _ st28=>?_)
  refine st28.tA 2 5 (λ _ st29=>?_) (ht:=qR)
  refine st29.tF 3 5 22 Tree.fld0 (λ _ st30=>?_)
  refine st30.tA 5 5 (λ _ st31=>?_) (ht:=qR)
  refine st31.tF 6 5 25 Tree.fld0 (λ _ st32=>?_)
  obtain⟨v36,p36,v38,p38,v41,p41,h49⟩:=bsC h23
  refine aK2 4 7 ?_ ?_
  ·
   refine st32.segC 1 [5,20,21,23,24,26] [(0,0),(2,1)] (λ _ _ st50=>?_)
   refine aHN (st50.pkZ 5) ?_
   refine aK1 7 ?_
   refine st50.segA 1 [5,20,21,23,24,27] [(0,0),(2,1)] (λ _ _ st51=>?_)
   refine aHN (st51.pkZ 5) ?_
   refine aK1 8 ?_
   refine st51.cNA 0 0 (zK p36) [5,20,21,23] [2] (λ _ _ _ _ st52=>?_)
   refine aHN (st52.pkZ 5) ?_
   refine aK1 9 ?_
   refine st52.segA 1 [5,20,21,29] [(0,0),(2,1)] (λ _ _ st53=>?_)
   refine aHN (st53.pkZ 5) ?_
   refine aK1 10 ?_
   refine st53.segA 1 [5,20,21,30] [(0,0),(2,1)] (λ _ _ st54=>?_)
   refine aHN (st54.pkZ 5) ?_
   refine aK1 11 ?_
   refine st54.segB 1 (sc rfl (oK (X5 p41))<|.nil) [5,20,21,31] [(0,0),(2,1)] (λ _ _ st55=>?_)
   refine aHN (st55.pkZ 5) ?_
   refine aK1 12 ?_
   refine st55.stA 2 1 FldS.id (tp rfl) [5,21,31] [0] (λ _ _ st57=>?_)
   refine aHN (st57.pkZ 5) ?_
   refine aK1 13 ?_
   refine st57.segA 1 [3,5,31] [(0,0),(2,1)] (λ _ _ st58=>?_)
   refine aHN (st58.pkZ 5) ?_
   refine aK1 14 ?_
   refine st58.segA 1 [3,4,5] [(0,0),(2,1)] (λ _ _ st59=>?_)
   refine aHN (st59.pkZ 5) ?_
   refine aK0 (za ?_)
   refine wp_ret (zd ?_)
   exact st59.rs3C (s:=0) 0 rfl kT25 rfl rfl rfl rfl iI (bxr h49)
  ·
   refine st32.segA 1 [5,20,21,23,27] [(0,0),(2,1)] (λ _ _ st60=>?_)
   refine aHN (st60.pkZ 5) ?_
   refine aK1 4 ?_
   refine st60.segC 1 [5,20,21,23,24,27] [(0,0),(2,1)] (λ _ _ st61=>?_)
   refine aHN (st61.pkZ 5) ?_
   refine aK1 8 ?_
   refine st61.cNA 0 0 (zK p36) [5,20,21,23] [2] (λ _ _ _ _ st62=>?_)
   refine aHN (st62.pkZ 5) ?_
   refine aK1 9 ?_
   refine st62.segA 1 [5,20,21,29] [(0,0),(2,1)] (λ _ _ st63=>?_)
   refine aHN (st63.pkZ 5) ?_
   refine aK1 10 ?_
   refine st63.segA 1 [5,20,21,30] [(0,0),(2,1)] (λ _ _ st64=>?_)
   refine aHN (st64.pkZ 5) ?_
   refine aK1 11 ?_
   refine st64.segB 1 (sc rfl (oK (X5 p41))<|.nil) [5,20,21,31] [(0,0),(2,1)] (λ _ _ st65=>?_)
   refine aHN (st65.pkZ 5) ?_
   refine aK1 12 ?_
   refine st65.stA 2 1 FldS.id (tp rfl) [5,21,31] [0] (λ _ _ st67=>?_)
   refine aHN (st67.pkZ 5) ?_
   refine aK1 13 ?_
   refine st67.segA 1 [3,5,31] [(0,0),(2,1)] (λ _ _ st68=>?_)
   refine aHN (st68.pkZ 5) ?_
   refine aK1 14 ?_
   refine st68.segA 1 [3,4,5] [(0,0),(2,1)] (λ _ _ st69=>?_)
   refine aHN (st69.pkZ 5) ?_
   refine aK0 (za ?_)
   refine wp_ret (zd ?_)
   exact st69.rs3C (s:=0) 0 rfl kT25 rfl rfl rfl rfl iI (bxr h49)
 refine st22.opn (s:=5) rfl (λ b70 o70 c70 st70=>?_)
 refine st70.held (λ w=>CellsAt w b70 o70 c70) zH (λ _ st71=>?_)
 refine st71.tW 0 5 (λ _ st72=>?_)
 refine st72.tM 1 6 (st72.pkZ 5) (λ _ st73=>?_)
 obtain⟨v76,p76,h82⟩:=bs h24
 refine aK1 2 ?_
 refine st73.segC 1 [5,32,33,34] [(0,0),(2,1)] (λ _ _ st83=>?_)
 refine aHN (st83.pkZ 5) ?_
 refine aK1 3 ?_
 refine st83.cNA 0 0 (zcc p76) [5,32,33] [2] (λ _ _ _ _ st84=>?_)
 refine aHN (st84.pkZ 5) ?_
 refine aK1 4 ?_
 refine st84.stA 2 1 FldS.id (tp rfl) [5,33,35] [0] (λ _ _ st86=>?_)
 refine aHN (st86.pkZ 5) ?_
 refine aK1 5 ?_
 refine st86.segA 1 [3,5,35] [(0,0),(2,1)] (λ _ _ st87=>?_)
 refine aHN (st87.pkZ 5) ?_
 refine aK1 6 ?_
 refine st87.segA 1 [3,4,5] [(0,0),(2,1)] (λ _ _ st88=>?_)
 refine aHN (st88.pkZ 5) ?_
 refine aK0 (za (wp_ret ?_))
 exact st88.rs3C (s:=0) 0 rfl kT25 rfl rfl rfl rfl iI (bxr h82)
def ji(x0:List UInt8):Option (Tree×(List Int)×Str):=
(qc x0).bind λ v6=>
(ZB v6).bind λ v9=>
some (v9.2.1,v9.2.2.1,v9.2.2.2)
theorem QJ{x0:List UInt8}{r:Tree×(List Int)×Str}(h:ji x0=some r):Fn prog 7 [dt x0] (dtup [dt r.1,dt r.2.1,dt r.2.2]):=by
 unfold ji at h
 refine fnx (fn:=f7) 2 func7 rfl (oD rfl) rfl (λ M _ _ st0=>wp_seq (wp_region_list ?_))
 refine st0.alA 1 zrTree [0] [] (λ b2 _ _ _ st2=>?_)
 refine st2.segB 2 (sc rfl (oA rfl (wK (α:=Int)))<|segC) [0] [(2,1)] (λ _ _ st3=>wpList_nil (za (wp_seq (wp_region_list ?_))))
 refine st3.segA 1 [5] [(2,1)] (λ _ _ st4=>?_)
 obtain⟨v6,p6,h7⟩:=bs h
 refine st4.cN (l:=[.tmp 5]) 0 rfl rfl kN31 (.cons (tp rfl) .nil) (za6 p6) (by simp) [] rfl [2] rfl rfl (λ _ _ _ _ st5=>?_)
 obtain⟨v9,p9,h10⟩:=bs h7
 refine st5.cSF (l:=[]) 0 (st5.bkR (s:=6) rfl iI) rfl rfl kN30 rfl (by simp) .nil (spec_nameOf_w p9) [] rfl [2] rfl rfl (by decide) (λ _ _ _ _ st8=>?_)
 refine st8.segA 3 [8,9,10] [(2,1)] (λ _ _ st11=>?_)
 refine st11.stA 2 1 FldS.id (tp rfl) [9,10] [] (λ _ _ st13=>?_)
 refine st13.segA 2 [3,4] [(2,1)] (λ _ _ st14=>wpList_nil (za (wp_ret ?_)))
 obtain rfl:=Option.some.inj h10
 exact st14.ret3c rfl kT25 rfl (st14.frozen (t:=3) rfl) (st14.frozen (t:=4) rfl) ⟨rfl,rfl⟩ rfl
end Go.Proofs.YtpmkkijamfgaeaaGreatDoor
