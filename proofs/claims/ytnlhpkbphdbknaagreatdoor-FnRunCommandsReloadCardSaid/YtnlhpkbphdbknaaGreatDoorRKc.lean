import Derived.Test.YtnlhpkbphdbknaaGreatDoorRB
import Derived.Test.YtnlhpkbphdbknaaGreatDoorRO
import Derived.Test.YtnlhpkbphdbknaaGreatDoorRKb
namespace Go.Proofs.YtnlhpkbphdbknaaGreatDoor
open Go.RowKit Tryz
attribute [local irreducible] OpRel OpdR
set_option maxRecDepth 10000
set_option maxHeartbeats 1600000
theorem kN125:fnB prog 125=true:=by kernel_rfl
instance iF25_0KxH:FldO prog 25 0 0:=⟨ql⟩
instance iF81_0KxH:FldO prog 81 0 0:=⟨kF81_0⟩
instance iF81_4KxH:FldO prog 81 4 4:=⟨kF81_4⟩
instance iF81_5KxH:FldO prog 81 5 5:=⟨kF81_5⟩
def Zl(x0:Reader):Option (Reader×Tree):=
(qN x0).bind λ v6=>
Option.bind (α:=Reader×Tree) (if(cmpI .gtr (v6.2.files.length:Int) (0:Int))=true then((zA v6.1 (24:Int)).bind λ v21=>
if(cmpI .eql v21.2 (0:Int))=true then((atI v6.2.files (0:Int)).bind λ v31=>
(appO 80 v6.2.files ([v31]:List File)).bind λ v39=>
some (v21.1,(⟨v39⟩:Tree)))
else(if(cmpI .eql v21.2 (1:Int))=true then((yc v21.1 ([(-1:Int),(3:Int)]:List Int)).bind λ v59=>
(atI v6.2.files (0:Int)).bind λ v62=>
some (v59.1,(⟨(v6.2.files.set (0:Int).toNat ({ v62 with root:=v59.2 }))⟩:Tree)))
else(if(cmpI .eql v21.2 (2:Int))=true then((yc v21.1 ([(-1:Int),(100:Int)]:List Int)).bind λ v89=>
(atI v6.2.files (0:Int)).bind λ v92=>
some (v89.1,(⟨(v6.2.files.set (0:Int).toNat ({ v92 with stamp:=v89.2 }))⟩:Tree)))
else(if(cmpI .eql v21.2 (3:Int))=true then((atI v6.2.files (0:Int)).bind λ v119=>
(appO 56 v119.body ([(⟨(9:Int),⟨[]⟩,0,⟨[]⟩,0⟩:Stmt)]:List Stmt)).bind λ v130=>
(atI v6.2.files (0:Int)).bind λ _v133=>
some (v21.1,(⟨(v6.2.files.set (0:Int).toNat ({ v119 with body:=v130 }))⟩:Tree)))
else(some (v21.1,v6.2))))))
else(some (v6.1,v6.2))) λ o13=>
some (o13.1,o13.2)
theorem zbp{x0:Reader}{r:Reader×Tree}(h:Zl x0=some r):FnS prog 86 (Ow.box (Ow.frz (α:=Reader))) ⟨x0⟩ [] ⟨r.1⟩ (.frz (dt r.2)):=by
 unfold Zl at h
 refine fnSB (fn:=f86) 4 9 func86 rfl (oD rfl) rfl (λ M G w0 b0 _ st0=>wp_seq (wp_region_list ?_))
 refine st0.alA 7 Y9 [] [0] (λ b2 _ _ _ st2=>?_)
 have st3:=st2.gn
 refine wpList_nil (za (wp_seq (wp_region_list ?_)))
 refine st3.segC 1 [4] [(0,4),(2,7)] (λ _ _ st4=>?_)
 obtain⟨v6,p6,h7⟩:=bs h
 refine st4.cSO (l:=[]) 4 0 (st4.bkN (s:=0) rfl iI) rfl rfl kN125 (Eq.trans (st4.st.has 4 _ rfl) (st4.st.has 0 _ rfl).1.symm) (by simp) (by simp) (by decide) .nil (za4 p6) [] rfl [2] rfl rfl rfl rfl (by decide) (λ _ H5 _ _ _ st5=>?_)
 have st8:=st5.gn
 refine st8.alcW (ow:=(owTree (Ow.row 81 (owFile (Ow.row 96 (Ow.frz (α:=Stmt))))))) 8 rfl rfl kZ25 (owTree.z Ow.row_z) (by simp) [] rfl [0,2,5] rfl rfl (λ b9 _ _ _ st9=>?_)
 have st10:=st9.gn
 refine st10.stO (sb:=3) (tv:=5) 8 0 (PV.root.box rfl) rfl rfl rfl kT25 (by simp) (by simp) (by decide) (zK rfl) rfl rfl rfl iI iI [] rfl [0,2] rfl rfl rfl (λ G11 _ st11=>?_)
 have st12:=st11.gn
 refine wpList_nil (za ?_)
 obtain⟨o13,p13,k13⟩:=bs h7
 refine zk (λ a w=>∃ M1 q13_0 q13_1 q13_2 q13_3 q13_4 q13_5 q13_6 q13_7 q13_8,Sx (Frm.chg w0 G) 56 M M1 [q13_0,q13_1,q13_2,q13_3,q13_4,q13_5,q13_6,oneB q13_7,q13_8] [(3,dptr o13.2)] [(2,7,dbox q13_7 0 WW),(0,4,dnm (Ow.box (Ow.frz (α:=Reader))) q13_4 ⟨o13.1⟩ (.pointer (some ⟨b0,0,none⟩)) [])] a w) ?_ ?_
 ·
  refine st12.hdA 3 8 ((PV.root.box rfl).fld owTree.f0) [0,2] (λ g14 A14 _ hA14 st14=>?_)
  refine st14.sqB (sc rfl (xFa rfl ql (zK rfl))<|sc rfl (xLc (sb:=3) (.head _) rfl rfl rfl kT23 (tp rfl) rfl)<|sc rfl (xLe rfl kL23 (tp rfl))<|segC) [9] [(0,4),(2,7),(3,8)] (λ _ _ st15=>?_)
  have st16:=st15.ncf (s:=3) 8 rfl rfl iI [0,2] rfl
  refine st16.cs rfl p13 (λ _ h17=>wp_seq (wp_region_list ?_)) (λ _ h18=>?_)
  ·
   refine st16.segC 1 [10] [(0,4),(2,7),(3,8)] (λ _ _ st19=>?_)
   obtain⟨v21,p21,h22⟩:=bs h17
   refine st19.cNA 4 0 (zB p21) [] [2,3] (λ G20 _ _ _ st23=>wpList_nil (za (wp_block ?_)))
   refine st23.sqA [11,12] [(0,4),(2,7),(3,8)] (λ _ _ st24=>?_)
   refine st24.cs rfl h22 (λ _ h25=>?_) (λ _ h26=>?_)
   ·
    have st27:=st24.unm (s:=3) 8 rfl rfl iI [0,2] rfl
    refine st27.thin (s:=3) (o2:=(Ow.box (owTree (Ow.row 81 (Ow.frz (α:=File)))))) 8 (thin_box (thin_via thin_row)) rfl rfl (by simp) iI [11,12] rfl [0,2] rfl rfl (λ _ _ st28=>?_)
    obtain⟨v31,p31,h32⟩:=bs h25
    refine st28.nmB (s:=3) 8 rfl rfl iI [0,2] rfl (λ b29 st29=>?_)
    refine st29.hdA 3 8 ((PV.root.box rfl).fld owTree.f0) [0,2] (λ g30 A30 _ hA30 st30=>?_)
    refine st30.drnA (D:=[_,_,_,_,_,_,_]) zw 7 [[(3,nS)],[(14,0),(3,nS)],[(3,nS)],[(16,2),(3,nS)],[(17,3)],[(18,4),(3,nS)],[(19,5)],[(15,1),(20,6)],[(3,nS)],[(22,8),(21,7)]] [15,20] [(0,4),(2,7),(3,8)] (λ _ _ st33=>?_) (hs:=rc rfl rfl (xFa rfl ql (zK rfl))<|rc rfl rfl (xLc (sb:=3) (.head _) rfl rfl rfl kT23 (tp rfl) rfl)<|rc rfl rfl (xFa rfl ql (zK rfl))<|rc rfl rfl (xLc (sb:=3) (.head _) rfl rfl rfl kT23 (tp rfl) rfl)<|rc rfl rfl (xIa (g:=g30) rfl kS23 (tp rfl) cI rfl (λ h=>hA30 h rfl) p31)<|rc rfl rfl (xLf (sb:=3) (((PV.root.box rfl).fld owTree.f0).row (.head _) rfl (λ h=>hA30 h rfl) p31) rfl kT81 (tp rfl) rfl)<|regA)
    refine st33.mvG (s:=15) (sb:=3) 8 1 ((PV.root.box rfl).fld owTree.f0) (.head _) rfl (yB rfl rfl) rfl (by simp) (by simp) (by decide) rfl iI [20] rfl [0,2] rfl rfl rfl rfl (λ G35 H35 st35=>?_)
    have st36:=st35.gs (Gs':=[oneB none,H35,oneB none,oneB none,G20,oneB none,oneB none,oneB (some b2),G35]) rfl
    refine st36.tipR (s:=15) 1 rfl rfl (by simp) iI [0,2,3] rfl rfl (λ g37 st37=>?_)
    obtain⟨v39,p39,h40⟩:=bs h32
    refine st37.apA 1 yt p39 [] [0,2,3] (λ g38 _ _ _ st38=>?_)
    have st41:=st38.gn
    refine st41.segB 1 (sc rfl (xFa rfl ql (opd_hl rfl))<|.nil) [22] [(0,4),(2,7),(3,8),(21,1)] (λ _ _ st42=>?_)
    have st44:=st42.tipW (s:=21) 1 rfl rfl iI [0,2,3] rfl
    refine st44.shA 3 21 8 1 (tp rfl) [] [0,2] (λ _ _ st43=>?_)
    have st45:=st43.gn
    refine wpList_nil (zf ?_)
    have st46:=st45.unm (s:=3) 8 rfl rfl iI [0,2] rfl
    have st47:=st46.frzB (s:=3) 8 rfl (by simp) iI [] rfl [0,2] rfl rfl
    refine za ?_
    cases h40
    exact fx
   refine st24.sqA [11,23] [(0,4),(2,7),(3,8)] (λ _ _ st48=>?_)
   refine st48.cs rfl h26 (λ _ h49=>?_) (λ _ h50=>?_)
   ·
    refine st48.hdA 3 8 ((PV.root.box rfl).fld owTree.f0) [0,2] (λ g51 A51 c51 hA51 st51=>?_)
    refine st51.held (λ w=>w.cell? ⟨b9,0,none⟩=some (.slice A51 (v6.2.files.length) c51)) zw (λ _ st52=>?_)
    refine st52.tk (i:=0) rfl rfl (by decide +kernel) (by decide +kernel) (by decide +kernel) (λ _ _ _ h=>h) (st52.cellS (sb:=3) rfl (.head _) rfl rfl) (yFa rfl ql (st52.st.has 3 _ rfl).1) (λ _ st53=>?_)
    refine st53.tk (i:=1) rfl rfl (by decide +kernel) (by decide +kernel) (by decide +kernel) (λ _ _ _ h=>h) (st53.cellS (sb:=3) rfl (.head _) rfl rfl) (yLd rfl kT23 (st53.st.has 25 _ rfl) (λ _ h=>h)) (λ _ st54=>?_)
    refine st54.tN 2 0 (st54.cellS (sb:=3) rfl (.head _) rfl rfl) (λ _ st55=>?_)
    refine st55.mvN (s:=26) (sb:=3) 8 2 ((PV.root.box rfl).fld owTree.f0) (.head _) rfl (yB rfl rfl) rfl rfl (by simp) (by simp) (by decide) rfl iI [11,23,25,27] rfl [0,2] rfl rfl rfl rfl (by decide) (λ G56 H56 st56=>?_)
    obtain⟨v59,p59,v62,p62,h67⟩:=bsB h49
    refine aK1 3 ?_
    refine st56.segB 1 (sc rfl (ym (opds:=[.const (.int .i64 (-1)),.const (.int .i64 3)]) rfl kS26 kY26 rfl rfl (by decide) (.cons cI (.cons cI .nil)))<|.nil) [27,28] [(0,4),(2,7),(3,8),(26,2)] (λ _ _ st68=>?_)
    refine aHN (st68.hkS (sb:=3) rfl) ?_
    refine aK1 4 ?_
    refine st68.cNA 4 0 (yf p59) [] [2,3,26] (λ G69 _ _ _ st70=>?_)
    refine aHN (st70.hkS (sb:=3) rfl) ?_
    refine aK1 5 ?_
    refine st70.segB 1 (sc rfl (xIaN rfl kS23 rfl cI (λ h=>hA51 h rfl) p62)<|.nil) [29,30] [(0,4),(2,7),(3,8),(26,2)] (λ _ _ st71=>?_)
    refine aHN (st71.hkS (sb:=3) rfl) ?_
    refine aK1 6 ?_
    refine st71.segC 1 [29,31] [(0,4),(2,7),(3,8),(26,2)] (λ _ _ st72=>?_)
    refine aHN (st72.hkS (sb:=3) rfl) ?_
    refine aK1 7 ?_
    refine st72.sfA 26 2 ((PV.root.row rfl (λ h=>hA51 h rfl) p62).fld owFile.f0) (tp rfl) (tp rfl) [] [0,2,3] (λ _ st73=>?_)
    refine aHN (st73.hkS (sb:=3) rfl) ?_
    refine aK0 ?_
    refine st73.stG (s:=26) (sb:=3) 8 2 rfl (by simp) (by simp) (by decide) rfl rfl iI iI [] rfl [0,2] rfl rfl rfl (λ _ st74=>?_)
    have st75:=st74.gn
    refine zf ?_
    have st76:=st75.unm (s:=3) 8 rfl rfl iI [0,2] rfl
    have st77:=st76.frzB (s:=3) 8 rfl (by simp) iI [] rfl [0,2] rfl rfl
    refine za ?_
    cases h67
    exact fx
   refine st48.sqA [11,32] [(0,4),(2,7),(3,8)] (λ _ _ st78=>?_)
   refine st78.cs rfl h50 (λ _ h79=>?_) (λ _ h80=>?_)
   ·
    refine st78.hdA 3 8 ((PV.root.box rfl).fld owTree.f0) [0,2] (λ g81 A81 c81 hA81 st81=>?_)
    refine st81.held (λ w=>w.cell? ⟨b9,0,none⟩=some (.slice A81 (v6.2.files.length) c81)) zw (λ _ st82=>?_)
    refine st82.tk (i:=0) rfl rfl (by decide +kernel) (by decide +kernel) (by decide +kernel) (λ _ _ _ h=>h) (st82.cellS (sb:=3) rfl (.head _) rfl rfl) (yFa rfl ql (st82.st.has 3 _ rfl).1) (λ _ st83=>?_)
    refine st83.tk (i:=1) rfl rfl (by decide +kernel) (by decide +kernel) (by decide +kernel) (λ _ _ _ h=>h) (st83.cellS (sb:=3) rfl (.head _) rfl rfl) (yLd rfl kT23 (st83.st.has 34 _ rfl) (λ _ h=>h)) (λ _ st84=>?_)
    refine st84.tN 2 0 (st84.cellS (sb:=3) rfl (.head _) rfl rfl) (λ _ st85=>?_)
    refine st85.mvN (s:=35) (sb:=3) 8 3 ((PV.root.box rfl).fld owTree.f0) (.head _) rfl (yB rfl rfl) rfl rfl (by simp) (by simp) (by decide) rfl iI [11,32,34,36] rfl [0,2] rfl rfl rfl rfl (by decide) (λ G86 H86 st86=>?_)
    obtain⟨v89,p89,v92,p92,h97⟩:=bsB h79
    refine aK1 3 ?_
    refine st86.segB 1 (sc rfl (ym (opds:=[.const (.int .i64 (-1)),.const (.int .i64 100)]) rfl kS26 kY26 rfl rfl (by decide) (.cons cI (.cons cI .nil)))<|.nil) [36,37] [(0,4),(2,7),(3,8),(35,3)] (λ _ _ st98=>?_)
    refine aHN (st98.hkS (sb:=3) rfl) ?_
    refine aK1 4 ?_
    refine st98.cNA 4 0 (yf p89) [] [2,3,35] (λ G99 _ _ _ st100=>?_)
    refine aHN (st100.hkS (sb:=3) rfl) ?_
    refine aK1 5 ?_
    refine st100.segB 1 (sc rfl (xIaN rfl kS23 rfl cI (λ h=>hA81 h rfl) p92)<|.nil) [38,39] [(0,4),(2,7),(3,8),(35,3)] (λ _ _ st101=>?_)
    refine aHN (st101.hkS (sb:=3) rfl) ?_
    refine aK1 6 ?_
    refine st101.segC 1 [38,40] [(0,4),(2,7),(3,8),(35,3)] (λ _ _ st102=>?_)
    refine aHN (st102.hkS (sb:=3) rfl) ?_
    refine aK1 7 ?_
    refine st102.sfA 35 3 ((PV.root.row rfl (λ h=>hA81 h rfl) p92).fld owFile.f4) (tp rfl) (tp rfl) [] [0,2,3] (λ _ st103=>?_)
    refine aHN (st103.hkS (sb:=3) rfl) ?_
    refine aK0 ?_
    refine st103.stG (s:=35) (sb:=3) 8 3 rfl (by simp) (by simp) (by decide) rfl rfl iI iI [] rfl [0,2] rfl rfl rfl (λ _ st104=>?_)
    have st105:=st104.gn
    refine zf ?_
    have st106:=st105.unm (s:=3) 8 rfl rfl iI [0,2] rfl
    have st107:=st106.frzB (s:=3) 8 rfl (by simp) iI [] rfl [0,2] rfl rfl
    refine za ?_
    cases h97
    exact fx
   refine st78.sqA [41] [(0,4),(2,7),(3,8)] (λ _ _ st108=>?_)
   refine st108.cs rfl h80 (λ _ h109=>?_) (λ _ h110=>?_)
   ·
    refine st108.hdA 3 8 ((PV.root.box rfl).fld owTree.f0) [0,2] (λ g111 A111 c111 hA111 st111=>?_)
    refine st111.held (λ w=>w.cell? ⟨b9,0,none⟩=some (.slice A111 (v6.2.files.length) c111)) zw (λ _ st112=>?_)
    refine st112.tk (i:=0) rfl rfl (by decide +kernel) (by decide +kernel) (by decide +kernel) (λ _ _ _ h=>h) (st112.cellS (sb:=3) rfl (.head _) rfl rfl) (yFa rfl ql (st112.st.has 3 _ rfl).1) (λ _ st113=>?_)
    refine st113.tk (i:=1) rfl rfl (by decide +kernel) (by decide +kernel) (by decide +kernel) (λ _ _ _ h=>h) (st113.cellS (sb:=3) rfl (.head _) rfl rfl) (yLd rfl kT23 (st113.st.has 43 _ rfl) (λ _ h=>h)) (λ _ st114=>?_)
    refine st114.tk (i:=2) rfl rfl (by decide +kernel) (by decide +kernel) (by decide +kernel) (λ _ _ _ h=>h) (st114.cellS (sb:=3) rfl (.head _) rfl rfl) (yFa rfl ql (st114.st.has 3 _ rfl).1) (λ _ st115=>?_)
    refine st115.tk (i:=3) rfl rfl (by decide +kernel) (by decide +kernel) (by decide +kernel) (λ _ _ _ h=>h) (st115.cellS (sb:=3) rfl (.head _) rfl rfl) (yLd rfl kT23 (st115.st.has 45 _ rfl) (λ _ h=>h)) (λ _ st116=>?_)
    refine st116.tkB (i:=7) (parts:=[(0,.const (.int .i64 9))]) (ns:=[1,1,1,1,1]) (zs:=J3) rfl rfl (by decide +kernel) (by decide +kernel) (by decide +kernel) (λ _ _ _ _ h=>h) (st116.cellS (sb:=3) rfl (.head _) rfl rfl) rfl rfl kB96 kC96 (λ w a hl=>by
 intro p hp;simp only[List.mem_cons,List.not_mem_nil,or_false] at hp
 rcases hp with rfl
 ·
  exact⟨by decide,rfl⟩) (λ w a hl=>Stmt.parts (x:=(⟨(9:Int),⟨[]⟩,0,⟨[]⟩,0⟩:Stmt)) (OpdR.cells cI hl) jS ⟨rfl,trivial⟩ jS ⟨rfl,trivial⟩) (λ _ st117=>?_)
    refine st117.mvN (s:=46) (sb:=3) 8 5 ((PV.root.box rfl).fld owTree.f0) (.head _) rfl (yB rfl rfl) rfl rfl (by simp) (by simp) (by decide) rfl iI [41,43,44,45,50] rfl [0,2] rfl rfl rfl rfl (by decide) (λ G118 H118 st118=>?_)
    obtain⟨v119,p119,v130,p130,v133,p133,h141⟩:=bsC h109
    refine aK2 4 8 ?_ ?_
    ·
     refine st118.segB 1 (sc rfl (xIaN rfl kS23 rfl cI (λ h=>hA111 h rfl) p119)<|.nil) [44,47,50] [(0,4),(2,7),(3,8),(46,5)] (λ _ _ st142=>?_)
     refine aHN (st142.hkS (sb:=3) rfl) ?_
     refine aK2 5 8 ?_ ?_
     ·
      refine st142.segC 1 [44,48,50] [(0,4),(2,7),(3,8),(46,5)] (λ _ _ st143=>?_)
      refine aHN (st143.hkS (sb:=3) rfl) ?_
      refine aK2 6 8 ?_ ?_
      ·
       refine st143.hdA 46 5 ((PV.root.row rfl (λ h=>hA111 h rfl) p119).fld owFile.f5) [0,2,3] (λ g144 A144 _ hA144 st144=>?_)
       refine st144.segB 1 (sc rfl (xLc (sb:=46) (.head _) rfl rfl rfl kT79 (tp rfl) rfl)<|.nil) [44,49,50] [(0,4),(2,7),(3,8),(46,5)] (λ _ _ st145=>?_)
       refine aHN (st145.hkS (sb:=3) rfl) ?_
       refine aK1 8 ?_
       refine st145.segC 1 [44,49,51] [(0,4),(2,7),(3,8),(46,5)] (λ _ _ st146=>?_)
       refine aHN (st146.hkS (sb:=3) rfl) ?_
       refine aK1 9 ?_
       refine st146.mvG (s:=49) (sb:=46) 5 6 ((PV.root.row rfl (λ h=>hA111 h rfl) p119).fld owFile.f5) (.head _) rfl (yB rfl rfl) rfl (by simp) (by simp) (by decide) rfl iI [44,51] rfl [0,2,3] rfl rfl rfl rfl (λ G148 H148 st148=>?_)
       have st149:=st148.gs (Gs':=[oneB none,oneB none,oneB none,oneB none,G20,G148,H148,oneB (some b2),G118]) rfl
       refine st149.tipR (s:=49) 6 rfl rfl (by simp) iI [0,2,3,46] rfl rfl (λ g150 st150=>?_)
       refine st150.apA 6 yt p130 [44] [0,2,3,46] (λ g151 _ _ _ st151=>?_)
       have st152:=st151.gn
       refine aHN (st152.hkS (sb:=3) rfl) ?_
       refine aK1 10 ?_
       refine st152.segB 1 (sc rfl (xIa (g:=g111) rfl kS23 (tp rfl) cI rfl (λ h=>hA111 h rfl) p133)<|.nil) [53] [(0,4),(2,7),(3,8),(46,5),(52,6)] (λ _ _ st153=>?_)
       refine aHN (st153.hkS (sb:=3) rfl) ?_
       refine aK1 11 ?_
       refine st153.segC 1 [54] [(0,4),(2,7),(3,8),(46,5),(52,6)] (λ _ _ st154=>?_)
       refine aHN (st154.hkS (sb:=3) rfl) ?_
       refine aK1 12 ?_
       have st156:=st154.tipW (s:=52) 6 rfl rfl iI [0,2,3,46] rfl
       refine st156.shA 46 52 5 6 (tp rfl) [] [0,2,3] (λ _ _ st155=>?_)
       have st157:=st155.gn
       refine aHN (st157.hkS (sb:=3) rfl) ?_
       refine aK0 ?_
       refine st157.stG (s:=46) (sb:=3) 8 5 rfl (by simp) (by simp) (by decide) rfl rfl iI iI [] rfl [0,2] rfl rfl rfl (λ _ st158=>?_)
       have st159:=st158.gn
       refine zf ?_
       have st160:=st159.unm (s:=3) 8 rfl rfl iI [0,2] rfl
       have st161:=st160.frzB (s:=3) 8 rfl (by simp) iI [] rfl [0,2] rfl rfl
       refine za ?_
       cases h141
       exact fx
      ·
       refine st143.segC 1 [44,48,51] [(0,4),(2,7),(3,8),(46,5)] (λ _ _ st162=>?_)
       refine aHN (st162.hkS (sb:=3) rfl) ?_
       refine aK1 6 ?_
       refine st162.hdA 46 5 ((PV.root.row rfl (λ h=>hA111 h rfl) p119).fld owFile.f5) [0,2,3] (λ g163 A163 _ hA163 st163=>?_)
       refine st163.segB 1 (sc rfl (xLc (sb:=46) (.head _) rfl rfl rfl kT79 (tp rfl) rfl)<|.nil) [44,49,51] [(0,4),(2,7),(3,8),(46,5)] (λ _ _ st164=>?_)
       refine aHN (st164.hkS (sb:=3) rfl) ?_
       refine aK1 9 ?_
       refine st164.mvG (s:=49) (sb:=46) 5 6 ((PV.root.row rfl (λ h=>hA111 h rfl) p119).fld owFile.f5) (.head _) rfl (yB rfl rfl) rfl (by simp) (by simp) (by decide) rfl iI [44,51] rfl [0,2,3] rfl rfl rfl rfl (λ G166 H166 st166=>?_)
       have st167:=st166.gs (Gs':=[oneB none,oneB none,oneB none,oneB none,G20,G166,H166,oneB (some b2),G118]) rfl
       refine st167.tipR (s:=49) 6 rfl rfl (by simp) iI [0,2,3,46] rfl rfl (λ g168 st168=>?_)
       refine st168.apA 6 yt p130 [44] [0,2,3,46] (λ g169 _ _ _ st169=>?_)
       have st170:=st169.gn
       refine aHN (st170.hkS (sb:=3) rfl) ?_
       refine aK1 10 ?_
       refine st170.segB 1 (sc rfl (xIa (g:=g111) rfl kS23 (tp rfl) cI rfl (λ h=>hA111 h rfl) p133)<|.nil) [53] [(0,4),(2,7),(3,8),(46,5),(52,6)] (λ _ _ st171=>?_)
       refine aHN (st171.hkS (sb:=3) rfl) ?_
       refine aK1 11 ?_
       refine st171.segC 1 [54] [(0,4),(2,7),(3,8),(46,5),(52,6)] (λ _ _ st172=>?_)
       refine aHN (st172.hkS (sb:=3) rfl) ?_
       refine aK1 12 ?_
       have st174:=st172.tipW (s:=52) 6 rfl rfl iI [0,2,3,46] rfl
       refine st174.shA 46 52 5 6 (tp rfl) [] [0,2,3] (λ _ _ st173=>?_)
       have st175:=st173.gn
       refine aHN (st175.hkS (sb:=3) rfl) ?_
       refine aK0 ?_
       refine st175.stG (s:=46) (sb:=3) 8 5 rfl (by simp) (by simp) (by decide) rfl rfl iI iI [] rfl [0,2] rfl rfl rfl (λ _ st176=>?_)
       have st177:=st176.gn
       refine zf ?_
       have st178:=st177.unm (s:=3) 8 rfl rfl iI [0,2] rfl
       have st179:=st178.frzB (s:=3) 8 rfl (by simp) iI [] rfl [0,2] rfl rfl
       refine za ?_
       cases h141
       exact fx
     ·
      refine st142.segC 1 [44,47,51] [(0,4),(2,7),(3,8),(46,5)] (λ _ _ st180=>?_)
      refine aHN (st180.hkS (sb:=3) rfl) ?_
      refine aK1 5 ?_
      refine st180.segC 1 [44,48,51] [(0,4),(2,7),(3,8),(46,5)] (λ _ _ st181=>?_)
      refine aHN (st181.hkS (sb:=3) rfl) ?_
      refine aK1 6 ?_
      refine st181.hdA 46 5 ((PV.root.row rfl (λ h=>hA111 h rfl) p119).fld owFile.f5) [0,2,3] (λ g182 A182 _ hA182 st182=>?_)
      refine st182.segB 1 (sc rfl (xLc (sb:=46) (.head _) rfl rfl rfl kT79 (tp rfl) rfl)<|.nil) [44,49,51] [(0,4),(2,7),(3,8),(46,5)] (λ _ _ st183=>?_)
      refine aHN (st183.hkS (sb:=3) rfl) ?_
      refine aK1 9 ?_
      refine st183.mvG (s:=49) (sb:=46) 5 6 ((PV.root.row rfl (λ h=>hA111 h rfl) p119).fld owFile.f5) (.head _) rfl (yB rfl rfl) rfl (by simp) (by simp) (by decide) rfl iI [44,51] rfl [0,2,3] rfl rfl rfl rfl (λ G185 H185 st185=>?_)
      have st186:=st185.gs (Gs':=[oneB none,oneB none,oneB none,oneB none,G20,G185,H185,oneB (some b2),G118]) rfl
      refine st186.tipR (s:=49) 6 rfl rfl (by simp) iI [0,2,3,46] rfl rfl (λ g187 st187=>?_)
      refine st187.apA 6 yt p130 [44] [0,2,3,46] (λ g188 _ _ _ st188=>?_)
      have st189:=st188.gn
      refine aHN (st189.hkS (sb:=3) rfl) ?_
      refine aK1 10 ?_
      refine st189.segB 1 (sc rfl (xIa (g:=g111) rfl kS23 (tp rfl) cI rfl (λ h=>hA111 h rfl) p133)<|.nil) [53] [(0,4),(2,7),(3,8),(46,5),(52,6)] (λ _ _ st190=>?_)
      refine aHN (st190.hkS (sb:=3) rfl) ?_
      refine aK1 11 ?_
      refine st190.segC 1 [54] [(0,4),(2,7),(3,8),(46,5),(52,6)] (λ _ _ st191=>?_)
      refine aHN (st191.hkS (sb:=3) rfl) ?_
      refine aK1 12 ?_
      have st193:=st191.tipW (s:=52) 6 rfl rfl iI [0,2,3,46] rfl
      refine st193.shA 46 52 5 6 (tp rfl) [] [0,2,3] (λ _ _ st192=>?_)
      have st194:=st192.gn
      refine aHN (st194.hkS (sb:=3) rfl) ?_
      refine aK0 ?_
      refine st194.stG (s:=46) (sb:=3) 8 5 rfl (by simp) (by simp) (by decide) rfl rfl iI iI [] rfl [0,2] rfl rfl rfl (λ _ st195=>?_)
      have st196:=st195.gn
      refine zf ?_
      have st197:=st196.unm (s:=3) 8 rfl rfl iI [0,2] rfl
      have st198:=st197.frzB (s:=3) 8 rfl (by simp) iI [] rfl [0,2] rfl rfl
      refine za ?_
      cases h141
      exact fx
    ·
     refine st118.segC 1 [44,51] [(0,4),(2,7),(3,8),(46,5)] (λ _ _ st199=>?_)
     refine aHN (st199.hkS (sb:=3) rfl) ?_
     refine aK1 4 ?_
     refine st199.segB 1 (sc rfl (xIaN rfl kS23 rfl cI (λ h=>hA111 h rfl) p119)<|.nil) [44,47,51] [(0,4),(2,7),(3,8),(46,5)] (λ _ _ st200=>?_)
     refine aHN (st200.hkS (sb:=3) rfl) ?_
     refine aK1 5 ?_
     refine st200.segC 1 [44,48,51] [(0,4),(2,7),(3,8),(46,5)] (λ _ _ st201=>?_)
     refine aHN (st201.hkS (sb:=3) rfl) ?_
     refine aK1 6 ?_
     refine st201.hdA 46 5 ((PV.root.row rfl (λ h=>hA111 h rfl) p119).fld owFile.f5) [0,2,3] (λ g202 A202 _ hA202 st202=>?_)
     refine st202.segB 1 (sc rfl (xLc (sb:=46) (.head _) rfl rfl rfl kT79 (tp rfl) rfl)<|.nil) [44,49,51] [(0,4),(2,7),(3,8),(46,5)] (λ _ _ st203=>?_)
     refine aHN (st203.hkS (sb:=3) rfl) ?_
     refine aK1 9 ?_
     refine st203.mvG (s:=49) (sb:=46) 5 6 ((PV.root.row rfl (λ h=>hA111 h rfl) p119).fld owFile.f5) (.head _) rfl (yB rfl rfl) rfl (by simp) (by simp) (by decide) rfl iI [44,51] rfl [0,2,3] rfl rfl rfl rfl (λ G205 H205 st205=>?_)
     have st206:=st205.gs (Gs':=[oneB none,oneB none,oneB none,oneB none,G20,G205,H205,oneB (some b2),G118]) rfl
     refine st206.tipR (s:=49) 6 rfl rfl (by simp) iI [0,2,3,46] rfl rfl (λ g207 st207=>?_)
     refine st207.apA 6 yt p130 [44] [0,2,3,46] (λ g208 _ _ _ st208=>?_)
     have st209:=st208.gn
     refine aHN (st209.hkS (sb:=3) rfl) ?_
     refine aK1 10 ?_
     refine st209.segB 1 (sc rfl (xIa (g:=g111) rfl kS23 (tp rfl) cI rfl (λ h=>hA111 h rfl) p133)<|.nil) [53] [(0,4),(2,7),(3,8),(46,5),(52,6)] (λ _ _ st210=>?_)
     refine aHN (st210.hkS (sb:=3) rfl) ?_
     refine aK1 11 ?_
     refine st210.segC 1 [54] [(0,4),(2,7),(3,8),(46,5),(52,6)] (λ _ _ st211=>?_)
     refine aHN (st211.hkS (sb:=3) rfl) ?_
     refine aK1 12 ?_
     have st213:=st211.tipW (s:=52) 6 rfl rfl iI [0,2,3,46] rfl
     refine st213.shA 46 52 5 6 (tp rfl) [] [0,2,3] (λ _ _ st212=>?_)
     have st214:=st212.gn
     refine aHN (st214.hkS (sb:=3) rfl) ?_
     refine aK0 ?_
     refine st214.stG (s:=46) (sb:=3) 8 5 rfl (by simp) (by simp) (by decide) rfl rfl iI iI [] rfl [0,2] rfl rfl rfl (λ _ st215=>?_)
     have st216:=st215.gn
     refine zf ?_
     have st217:=st216.unm (s:=3) 8 rfl rfl iI [0,2] rfl
     have st218:=st217.frzB (s:=3) 8 rfl (by simp) iI [] rfl [0,2] rfl rfl
     refine za ?_
     cases h141
     exact fx
   refine wp_skip (zf ?_)
   have st219:=st108.unm (s:=3) 8 rfl rfl iI [0,2] rfl
   have st220:=st219.frzB (s:=3) 8 rfl (by simp) iI [41] rfl [0,2] rfl rfl
   refine za ?_
   cases h110
   exact fx
  refine wp_skip ?_
  have st221:=st16.unm (s:=3) 8 rfl rfl iI [0,2] rfl
  have st222:=st221.frzB (s:=3) 8 rfl (by simp) iI [9] rfl [0,2] rfl rfl
  refine za ?_
  cases h18
  exact fx
 rintro a13 w13 ⟨M13,q13_0,q13_1,q13_2,q13_3,q13_4,q13_5,q13_6,q13_7,q13_8,st13⟩
 have h223:=k13
 refine wp_seq (wp_region_list ?_)
 refine st13.segA 1 [55] [(0,4),(2,7)] (λ _ _ st224=>?_)
 refine st224.stA 2 7 FldS.id (tp rfl) [] [0] (λ _ _ st226=>wpList_nil (za (wp_ret ?_)))
 exact st226.rsC (s:=0) 4 rfl kT25 rfl rfl iI (bxr h223)
open Go.RowKit Tryz
set_option maxRecDepth 10000
set_option maxHeartbeats 1600000
theorem kN30:fnB prog 30=true:=by kernel_rfl
theorem kB43:bldB prog 43 [1,1]=true:=by kernel_rfl
theorem kC43:qa prog 43 [1,1]=some zpGCmd:=by kernel_rfl
theorem Xg:∀ {M:Nat->Prop} {look:Nat->Option Dt} {o:Oper} {q0 q1:Operand} {y0:Int} {y1:Str},o.op=.build 43 #[(0,q0),(1,q1)]->OpdR M look q0 (dt y0)->OpdR M look q1 (dt y1)->OpRel prog M look o (dt (⟨y0,y1⟩:GCmd)):=@λ _ _ _ q0 q1 y0 y1 ho h0 h1=>yH (parts:=[(0,q0),(1,q1)]) (ns:=[1,1]) (zs:=zpGCmd) rfl ho kB43 kC43 (λ w a hl=>by
 intro p hp;simp only[List.mem_cons,List.not_mem_nil,or_false] at hp
 rcases hp with rfl | rfl
 ·
  exact⟨(by decide:0<2),Rep.len (α:=Int) (OpdR.cells h0 hl)⟩
 ·
  exact⟨(by decide:1<2),Rep.len (α:=Str) (OpdR.cells h1 hl)⟩) (λ w a hl=>GCmd.parts (x:=(⟨y0,y1⟩:GCmd)) (OpdR.cells h0 hl) (OpdR.cells h1 hl))
theorem kY27:zlB prog 27=true:=by kernel_rfl
theorem kN31:fnB prog 31=true:=by kernel_rfl
theorem kR118:EqV prog 3 118 GAttr/\seB prog 118 [(9,0),(116,1)]=true/\Rep.agg GAttr=true/\3<=10000:=⟨(EqV.struct (γ:=GAttr) (ls:=[(9,0),(116,1)]) (λ x=>(x.name,x.value)) (λ x y h=>by cases x;cases y;cases h;rfl) (λ h=>h) rfl (by kernel_rfl) (EqF.cons (by kernel_rfl) ((EqV.str (by kernel_rfl)).mono 1) (EqF.last (by kernel_rfl) (EqV.struct (γ:=GVal) (ls:=[(3,0),(3,1)]) (λ x=>(x.kind,x.num)) (λ x y h=>by cases x;cases y;cases h;rfl) (λ h=>h) rfl (by kernel_rfl) (EqF.cons (by kernel_rfl) (EqV.int (by kernel_rfl)) (EqF.last (by kernel_rfl) (EqV.int (by kernel_rfl)))))))),by kernel_rfl,rfl,by decide⟩
theorem kR44:EqV prog 2 44 GEvent/\seB prog 44 [(3,0),(9,1)]=true/\Rep.agg GEvent=true/\2<=10000:=⟨(EqV.struct (γ:=GEvent) (ls:=[(3,0),(9,1)]) (λ x=>(x.kind,x.name)) (λ x y h=>by cases x;cases y;cases h;rfl) (λ h=>h) rfl (by kernel_rfl) (EqF.cons (by kernel_rfl) (EqV.int (by kernel_rfl)) (EqF.last (by kernel_rfl) (EqV.str (by kernel_rfl))))),by kernel_rfl,rfl,by decide⟩
theorem kN19:fnB prog 19=true:=by kernel_rfl
theorem kF33_0:fldB prog 33 0 0=true:=by kernel_rfl
theorem kF33_1:fldB prog 33 1 1=true:=by kernel_rfl
theorem W7:fldB prog 33 2 2=true:=by kernel_rfl
theorem kF33_4:fldB prog 33 4 4=true:=by kernel_rfl
def ZI(x0:Reader):Option (Reader×Tree×(List Int)×Str):=
(Zl x0).bind λ v6=>
(Zk v6.1).bind λ v15=>
(gO (cmpI .gtr (v6.2.files.length:Int) (0:Int) == true) (zA v15.1 (4:Int))).bind λ v20=>
if(cmpI .gtr (v6.2.files.length:Int) (0:Int)&&cmpI .gtr v20.2 (0:Int))=true then((zA (if(cmpI .gtr (v6.2.files.length:Int) (0:Int) == true)=true then v20.1 else v15.1) (v6.2.files.length:Int)).bind λ v36=>
(atI v6.2.files v36.2).bind λ v38=>
(qZ v38).bind λ v41=>
some (v36.1,v6.2,v15.2,v41))
else((Zj (if(cmpI .gtr (v6.2.files.length:Int) (0:Int) == true)=true then v20.1 else v15.1)).bind λ v76=>
some (v76.1,v6.2,v15.2,v76.2))
theorem spec_nameOf_w{x0:Reader}{r:Reader×Tree×(List Int)×Str}(h:ZI x0=some r):FnS prog 50 (Ow.box (Ow.frz (α:=Reader))) ⟨x0⟩ [] ⟨r.1⟩ (.frz (dtup [dt r.2.1,dt r.2.2.1,dt r.2.2.2])):=by
 unfold ZI at h
 refine fnSB (fn:=f50) 0 3 func50 rfl (oD rfl) rfl (λ M G _ b0 _ st0=>wp_seq (wp_region_list ?_))
 refine st0.alA 1 Y9 [] [0] (λ b2 _ _ _ st2=>?_)
 refine st2.segB 2 (sc rfl (oA rfl (qw (α:=Int)))<|segC) [] [(0,0),(2,1)] (λ _ _ st3=>wpList_nil (za (wp_seq (wp_region_list ?_))))
 refine st3.segC 1 [7] [(0,0),(2,1)] (λ _ _ st4=>?_)
 obtain⟨v6,p6,h7⟩:=bs h
 refine st4.cNA 0 0 (zbp p6) [] [2] (λ _ _ _ _ st5=>?_)
 refine st5.alA 2 Y9 [8] [0,2] (λ b9 _ _ _ st9=>?_)
 refine st9.stA 5 2 FldS.id (tp rfl) [] [0,2] (λ _ _ st11=>?_)
 have st12:=st11.frzX 2 (s:=5) rfl rfl [] rfl [0,2] rfl
 refine wpList_nil (za (wp_seq (wp_region_list ?_)))
 refine st12.segC 1 [5,9] [(0,0),(2,1)] (λ _ _ st13=>?_)
 obtain⟨v15,p15,h16⟩:=bs h7
 refine st13.cNA 0 0 (zbo p15) [5] [2] (λ _ _ _ _ st14=>?_)
 refine st14.segA 1 [5,6] [(0,0),(2,1)] (λ _ _ st17=>wpList_nil (za (wp_seq (wp_seq (wp_region_list ?_)))))
 refine st17.segB 6 (sc rfl (zt Tree.fld0 rfl ql (tp rfl))<|sc rfl (zl rfl kT23 (tp rfl))<|sc rfl (jQ rfl kL23 (tp rfl))<|sc rfl (oCI rfl (tp rfl) cI)<|sc rfl (oM rfl (tp rfl))<|sg rfl rfl (λ hg=>oM rfl (zK rfl))<|.nil) [5,6,15,16] [(0,0),(2,1)] (λ _ _ st18=>?_)
 obtain⟨v20,p20,h21⟩:=bs h16
 refine st18.cSFgB (sb:=0) (l:=[.const (.int .i64 4)]) 0 rfl iI rfl rfl rfl kN33 (λ hg=>(st18.st.has 16 _ rfl).1 hg) (by simp) (λ hg=>(.cons cI .nil)) (λ hg=>zB (gh hg p20)) [5,6,15] rfl [2] rfl rfl (by decide) (λ _ _ _ _ st19=>?_)
 refine st19.segC 2 [5,6,19] [(0,0),(2,1)] (λ _ _ st22=>wpList_nil (za ?_))
 refine st22.cs rfl h21 (λ _ h23=>wp_seq ?_) (λ _ h24=>wp_skip (za (wp_seq ?_)))
 ·
  refine st22.opn (s:=5) rfl (λ b25 o25 c25 st25=>?_)
  refine st25.held (λ w=>CellsAt w b25 o25 c25) zw (λ _ st26=>?_)
  refine st26.tW 0 5 (λ _ st27=>?_)
  refine st27.tM 1 6 (st27.pkZ 5) (λ _ st28=>?_)
  refine st28.tA 2 5 (λ _ st29=>?_) (ht:=ql)
  refine st29.tF 3 5 22 Tree.fld0 (λ _ st30=>?_)
  refine st30.tA 5 5 (λ _ st31=>?_) (ht:=ql)
  refine st31.tF 6 5 25 Tree.fld0 (λ _ st32=>?_)
  obtain⟨v36,p36,v38,p38,v41,p41,h49⟩:=bsC h23
  refine aK2 4 7 ?_ ?_
  ·
   refine st32.segC 1 [5,20,21,23,24,26] [(0,0),(2,1)] (λ _ _ st50=>?_)
   refine aHN (st50.pkZ 5) ?_
   refine aK1 7 ?_
   refine st50.segA 1 [5,20,21,23,24,27] [(0,0),(2,1)] (λ _ _ st51=>?_)
   refine aHN (st51.pkZ 5) ?_
   refine aK1 8 ?_
   refine st51.cNA 0 0 (zB p36) [5,20,21,23] [2] (λ _ _ _ _ st52=>?_)
   refine aHN (st52.pkZ 5) ?_
   refine aK1 9 ?_
   refine st52.segA 1 [5,20,21,29] [(0,0),(2,1)] (λ _ _ st53=>?_)
   refine aHN (st53.pkZ 5) ?_
   refine aK1 10 ?_
   refine st53.segA 1 [5,20,21,30] [(0,0),(2,1)] (λ _ _ st54=>?_)
   refine aHN (st54.pkZ 5) ?_
   refine aK1 11 ?_
   refine st54.segB 1 (sc rfl (oK (q5 p41))<|.nil) [5,20,21,31] [(0,0),(2,1)] (λ _ _ st55=>?_)
   refine aHN (st55.pkZ 5) ?_
   refine aK1 12 ?_
   refine st55.stA 2 1 FldS.id (tp rfl) [5,21,31] [0] (λ _ _ st57=>?_)
   refine aHN (st57.pkZ 5) ?_
   refine aK1 13 ?_
   refine st57.segA 1 [3,5,31] [(0,0),(2,1)] (λ _ _ st58=>?_)
   refine aHN (st58.pkZ 5) ?_
   refine aK1 14 ?_
   refine st58.segA 1 [3,4,5] [(0,0),(2,1)] (λ _ _ st59=>?_)
   refine aHN (st59.pkZ 5) ?_
   refine aK0 (za ?_)
   refine wp_ret (zd ?_)
   exact st59.rs3C (s:=0) 0 rfl kT25 rfl rfl rfl rfl iI (bxr h49)
  ·
   refine st32.segA 1 [5,20,21,23,27] [(0,0),(2,1)] (λ _ _ st60=>?_)
   refine aHN (st60.pkZ 5) ?_
   refine aK1 4 ?_
   refine st60.segC 1 [5,20,21,23,24,27] [(0,0),(2,1)] (λ _ _ st61=>?_)
   refine aHN (st61.pkZ 5) ?_
   refine aK1 8 ?_
   refine st61.cNA 0 0 (zB p36) [5,20,21,23] [2] (λ _ _ _ _ st62=>?_)
   refine aHN (st62.pkZ 5) ?_
   refine aK1 9 ?_
   refine st62.segA 1 [5,20,21,29] [(0,0),(2,1)] (λ _ _ st63=>?_)
   refine aHN (st63.pkZ 5) ?_
   refine aK1 10 ?_
   refine st63.segA 1 [5,20,21,30] [(0,0),(2,1)] (λ _ _ st64=>?_)
   refine aHN (st64.pkZ 5) ?_
   refine aK1 11 ?_
   refine st64.segB 1 (sc rfl (oK (q5 p41))<|.nil) [5,20,21,31] [(0,0),(2,1)] (λ _ _ st65=>?_)
   refine aHN (st65.pkZ 5) ?_
   refine aK1 12 ?_
   refine st65.stA 2 1 FldS.id (tp rfl) [5,21,31] [0] (λ _ _ st67=>?_)
   refine aHN (st67.pkZ 5) ?_
   refine aK1 13 ?_
   refine st67.segA 1 [3,5,31] [(0,0),(2,1)] (λ _ _ st68=>?_)
   refine aHN (st68.pkZ 5) ?_
   refine aK1 14 ?_
   refine st68.segA 1 [3,4,5] [(0,0),(2,1)] (λ _ _ st69=>?_)
   refine aHN (st69.pkZ 5) ?_
   refine aK0 (za ?_)
   refine wp_ret (zd ?_)
   exact st69.rs3C (s:=0) 0 rfl kT25 rfl rfl rfl rfl iI (bxr h49)
 refine st22.opn (s:=5) rfl (λ b70 o70 c70 st70=>?_)
 refine st70.held (λ w=>CellsAt w b70 o70 c70) zw (λ _ st71=>?_)
 refine st71.tW 0 5 (λ _ st72=>?_)
 refine st72.tM 1 6 (st72.pkZ 5) (λ _ st73=>?_)
 obtain⟨v76,p76,h82⟩:=bs h24
 refine aK1 2 ?_
 refine st73.segC 1 [5,32,33,34] [(0,0),(2,1)] (λ _ _ st83=>?_)
 refine aHN (st83.pkZ 5) ?_
 refine aK1 3 ?_
 refine st83.cNA 0 0 (zbn p76) [5,32,33] [2] (λ _ _ _ _ st84=>?_)
 refine aHN (st84.pkZ 5) ?_
 refine aK1 4 ?_
 refine st84.stA 2 1 FldS.id (tp rfl) [5,33,35] [0] (λ _ _ st86=>?_)
 refine aHN (st86.pkZ 5) ?_
 refine aK1 5 ?_
 refine st86.segA 1 [3,5,35] [(0,0),(2,1)] (λ _ _ st87=>?_)
 refine aHN (st87.pkZ 5) ?_
 refine aK1 6 ?_
 refine st87.segA 1 [3,4,5] [(0,0),(2,1)] (λ _ _ st88=>?_)
 refine aHN (st88.pkZ 5) ?_
 refine aK0 (za (wp_ret ?_))
 exact st88.rs3C (s:=0) 0 rfl kT25 rfl rfl rfl rfl iI (bxr h82)
def xl(v7:Reader×Tree×(List Int)×Str)(s28:Reader×(List GCmd)×Int):Option ((Reader×(List GCmd)×Int)⊕(Reader×(List GCmd))):=
if(cmpI .gtr s28.2.2 (0:Int))=true then((yc s28.1 ([(0:Int),(0:Int),(1:Int),(2:Int),(0:Int)]:List Int)).bind λ v35=>
(jj v35.1).bind λ v40=>
Option.bind (α:=Reader×GCmd) ((gO (cmpI .gtr (v7.2.1.files.length:Int) (0:Int) == true) (zA v40.1 (4:Int))).bind λ v52=>
if(cmpI .gtr (v7.2.1.files.length:Int) (0:Int)&&cmpI .gtr v52.2 (0:Int))=true then((zA (if(cmpI .gtr (v7.2.1.files.length:Int) (0:Int) == true)=true then v52.1 else v40.1) (v7.2.1.files.length:Int)).bind λ v67=>
(atI v7.2.1.files v67.2).bind λ v70=>
(qZ v70).bind λ v73=>
some (v67.1,{ (⟨v35.2,v40.2⟩:GCmd) with name:=v73 }))
else(some ((if(cmpI .gtr (v7.2.1.files.length:Int) (0:Int) == true)=true then v52.1 else v40.1),(⟨v35.2,v40.2⟩:GCmd)))) λ o49=>
(appO 24 s28.2.1 ([o49.2]:List GCmd)).bind λ v110=>
(i64 (s28.2.2 - (1:Int))).bind λ v114=>
some (.inl (o49.1,v110,v114)))
else(some (.inr (s28.1,s28.2.1)))
def j6(x0:Reader):Option (Reader×Tree×(List Int)×(List GCmd)):=
(ZI x0).bind λ v7=>
Option.bind (α:=Reader×(List GCmd)) ((yc v7.1 ([(2:Int),(3:Int),(1:Int),(4:Int),(0:Int),(6:Int)]:List Int)).bind λ v23=>
zW (λ s28=>xl v7 s28) (v23.1,[],v23.2)) λ o20=>
Option.bind (α:=Reader×(List GCmd)) ((gO (cmpI .gtr (o20.2.length:Int) (0:Int) == true) (zA o20.1 (20:Int))).bind λ v124=>
if(cmpI .gtr (o20.2.length:Int) (0:Int)&&cmpI .eql v124.2 (0:Int))=true then((yc (if(cmpI .gtr (o20.2.length:Int) (0:Int) == true)=true then v124.1 else o20.1) ([(-1:Int),(3:Int)]:List Int)).bind λ v132=>
(atI o20.2 (0:Int)).bind λ v135=>
some (v132.1,(o20.2.set (0:Int).toNat ({ v135 with kind:=v132.2 }))))
else(some ((if(cmpI .gtr (o20.2.length:Int) (0:Int) == true)=true then v124.1 else o20.1),o20.2))) λ o120=>
some (o120.1,v7.2.1,v7.2.2.1,o120.2)
theorem QN{x0:Reader}{r:Reader×Tree×(List Int)×(List GCmd)}(h:j6 x0=some r):FnS prog 31 (Ow.box (Ow.frz (α:=Reader))) ⟨x0⟩ [] ⟨r.1⟩ (.frz (dtup [dt r.2.1,dt r.2.2.1,dt r.2.2.2])):=by
 unfold j6 at h
 refine fnSB (fn:=f31) 1 5 func31 rfl (oD rfl) rfl (λ M G w0 b0 _ st0=>wp_seq (wp_region_list ?_))
 refine st0.alA 2 Y9 [] [0] (λ b2 _ _ _ st2=>?_)
 have st3:=st2.gn
 refine st3.segB 2 (sc rfl (oA rfl (qw (α:=Int)))<|sc rfl (oA rfl (qw (α:=GCmd)))<|.nil) [] [(0,1),(2,2)] (λ _ _ st4=>wpList_nil (za (wp_seq (wp_region_list ?_))))
 refine st4.segC 1 [12] [(0,1),(2,2)] (λ _ _ st5=>?_)
 obtain⟨v7,p7,h8⟩:=bs h
 refine st5.cNA 1 0 (spec_nameOf_w p7) [] [2] (λ G6 _ _ _ st9=>?_)
 refine st9.segA 4 [14,15,16] [(0,1),(2,2)] (λ _ _ st10=>?_)
 refine st10.alA 3 Y9 [14,15,16] [0,2] (λ b12 _ _ _ st12=>?_)
 have st13:=st12.gn
 refine st13.stA 5 3 FldS.id (tp rfl) [15,16] [0,2] (λ _ _ st15=>?_)
 have st16:=st15.frzX 3 (s:=5) rfl rfl [15,16] rfl [0,2] rfl
 have st17:=st16.gn
 refine st17.segA 2 [5,6] [(0,1),(2,2)] (λ _ _ st18=>wpList_nil (za ?_))
 refine st18.sqB (sc rfl (yp (α:=GCmd) (e:=43) rfl kS27)<|segC) [5,6] [(0,1),(2,2),(8,0)] (λ _ _ st19=>?_)
 obtain⟨o20,p20,k20⟩:=bs h8
 refine zk (λ a w=>∃ M1 q20_0 q20_1 q20_2 q20_3 q20_4,Sx (Frm.chg w0 G) 72 M M1 [q20_0,q20_1,oneB q20_2,oneB q20_3,oneB q20_4] [(5,dptr v7.2.1),(6,dt v7.2.2.1)] [(2,2,dbox q20_2 0 WW),(0,1,dnm (Ow.box (Ow.frz (α:=Reader))) q20_1 ⟨o20.1⟩ (.pointer (some ⟨b0,0,none⟩)) []),(8,0,dow (Ow.row 43 (Ow.frz (α:=GCmd))) q20_0 o20.2)] a w) ?_ ?_
 ·
  refine wp_seq (wp_region_list ?_)
  refine st19.segB 2 (sP 1 (r:=by exact sc rfl (ym (opds:=[.const (.int .i64 2),.const (.int .i64 3),.const (.int .i64 1),.const (.int .i64 4),.const (.int .i64 0),.const (.int .i64 6)]) rfl kS26 kY26 rfl rfl (by decide) (.cons cI (.cons cI (.cons cI (.cons cI (.cons cI (.cons cI .nil)))))))<|.nil)) [5,6,18,19] [(0,1),(2,2),(8,0)] (λ _ _ st21=>?_)
  obtain⟨v23,p23,h24⟩:=bs p20
  refine st21.cNA 1 0 (yf p23) [5,6] [2,8] (λ G22 _ _ _ st25=>?_)
  refine st25.segA 1 [5,6,9] [(0,1),(2,2),(8,0)] (λ _ _ st26=>wpList_nil (za (wp_block ?_)))
  have st27:=st26.tipW (s:=8) 0 rfl rfl iE [0,2] rfl
  refine zJ h24 (λ s28 a w=>∃ M1 q28_0 q28_1 q28_2 q28_3 q28_4,Sx (Frm.chg w0 G) 72 M M1 [q28_0,q28_1,oneB q28_2,oneB q28_3,oneB q28_4] [(5,dptr v7.2.1),(6,dt v7.2.2.1),(9,dt s28.2.2)] [(2,2,dbox q28_2 0 WW),(0,1,dnm (Ow.box (Ow.frz (α:=Reader))) q28_1 ⟨s28.1⟩ (.pointer (some ⟨b0,0,none⟩)) []),(8,0,dow (Ow.row 43 (Ow.frz (α:=GCmd))) q28_0 s28.2.1)] a w) fx ?_
  rintro s28 z28 a28 w28 ⟨M28,q28_0,q28_1,q28_2,q28_3,q28_4,st28⟩ hs28 hx28
  have h29:xl v7 s28=some z28:=hs28
  unfold xl at h29
  refine wp_seq ?_
  refine st28.sqA [5,6,9,22] [(0,1),(2,2),(8,0)] (λ _ _ st30=>?_)
  refine st30.cs rfl h29 (λ _ h31=>wp_skip (za (wp_seq (wp_block (wp_seq (wp_region_list ?_)))))) (λ _ h32=>wp_exit (zi (zi (zE ?_))))
  ·
   refine st30.segB 2 (sP 1 (r:=by exact sc rfl (ym (opds:=[.const (.int .i64 0),.const (.int .i64 0),.const (.int .i64 1),.const (.int .i64 2),.const (.int .i64 0)]) rfl kS26 kY26 rfl rfl (by decide) (.cons cI (.cons cI (.cons cI (.cons cI (.cons cI .nil))))))<|.nil)) [5,6,9,25,26] [(0,1),(2,2),(8,0)] (λ _ _ st33=>?_)
   obtain⟨v35,p35,h36⟩:=bs h31
   refine st33.cNA 1 0 (yf p35) [5,6,9] [2,8] (λ G34 _ _ _ st37=>?_)
   refine st37.segC 1 [5,6,9,27,28] [(0,1),(2,2),(8,0)] (λ _ _ st38=>?_)
   obtain⟨v40,p40,h41⟩:=bs h36
   refine st38.cNA 1 0 (Yc p40) [5,6,9,27] [2,8] (λ G39 _ _ _ st42=>?_)
   refine st42.segB 1 (sc rfl (Xg rfl (tp rfl) (tp rfl))<|.nil) [5,6,9,30] [(0,1),(2,2),(8,0)] (λ _ _ st43=>?_)
   refine st43.alA 4 zrGCmd [5,6,9,30] [0,2,8] (λ b45 _ _ _ st45=>?_)
   have st46:=st45.gn
   refine st46.stA 10 4 FldS.id (tp rfl) [5,6,9] [0,2,8] (λ _ _ st48=>wpList_nil (za ?_))
   obtain⟨o49,p49,k49⟩:=bs h41
   refine zk (λ a w=>∃ M1 q49_0 q49_1 q49_2 q49_3 q49_4,Sx (Frm.chg w0 G) 72 M M1 [q49_0,q49_1,oneB q49_2,oneB q49_3,oneB q49_4] [(5,dptr v7.2.1),(6,dt v7.2.2.1),(9,dt s28.2.2)] [(2,2,dbox q49_2 0 WW),(10,4,dbox q49_4 0 o49.2),(0,1,dnm (Ow.box (Ow.frz (α:=Reader))) q49_1 ⟨o49.1⟩ (.pointer (some ⟨b0,0,none⟩)) []),(8,0,dow (Ow.row 43 (Ow.frz (α:=GCmd))) q49_0 s28.2.1)] a w) ?_ ?_
   ·
    refine wp_seq (wp_region_list ?_)
    refine st48.segB 6 (sc rfl (zt Tree.fld0 rfl ql (tp rfl))<|sc rfl (zl rfl kT23 (tp rfl))<|sc rfl (jQ rfl kL23 (tp rfl))<|sc rfl (oCI rfl (tp rfl) cI)<|sc rfl (oM rfl (tp rfl))<|sg rfl rfl (λ hg=>oM rfl (zK rfl))<|.nil) [5,6,9,35,36] [(0,1),(2,2),(8,0),(10,4)] (λ _ _ st50=>?_)
    obtain⟨v52,p52,h53⟩:=bs p49
    refine st50.cSFgB (sb:=0) (l:=[.const (.int .i64 4)]) 1 rfl iI rfl rfl rfl kN33 (λ hg=>(st50.st.has 36 _ rfl).1 hg) (by simp) (λ hg=>(.cons cI .nil)) (λ hg=>zB (gh hg p52)) [5,6,9,35] rfl [2,8,10] rfl rfl (by decide) (λ _ _ _ _ st51=>?_)
    have st54:=st51.gn
    refine st54.segC 2 [5,6,9,39] [(0,1),(2,2),(8,0),(10,4)] (λ _ _ st55=>wpList_nil (za ?_))
    refine st55.cs rfl h53 (λ _ h56=>?_) (λ _ h57=>wp_skip (za ?_))
    ·
     refine st55.opn (s:=5) rfl (λ b58 o58 c58 st58=>?_)
     refine st58.held (λ w=>CellsAt w b58 o58 c58) zw (λ _ st59=>?_)
     refine st59.tA 0 5 (λ _ st60=>?_) (ht:=ql)
     refine st60.tF 1 5 40 Tree.fld0 (λ _ st61=>?_)
     refine st61.tA 3 5 (λ _ st62=>?_) (ht:=ql)
     refine st62.tF 4 5 43 Tree.fld0 (λ _ st63=>?_)
     obtain⟨v67,p67,v70,p70,v73,p73,h80⟩:=bsC h56
     refine aK2 2 5 ?_ ?_
     ·
      refine st63.segC 1 [5,6,9,41,42,44] [(0,1),(2,2),(8,0),(10,4)] (λ _ _ st81=>?_)
      refine aHN (st81.pkZ 5) ?_
      refine aK1 5 ?_
      refine st81.segA 1 [5,6,9,41,42,45] [(0,1),(2,2),(8,0),(10,4)] (λ _ _ st82=>?_)
      refine aHN (st82.pkZ 5) ?_
      refine aK1 6 ?_
      refine st82.cNA 1 0 (zB p67) [5,6,9,41] [2,8,10] (λ G83 _ _ _ st84=>?_)
      refine aHN (st84.pkZ 5) ?_
      refine aK1 7 ?_
      refine st84.segA 1 [5,6,9,47] [(0,1),(2,2),(8,0),(10,4)] (λ _ _ st85=>?_)
      refine aHN (st85.pkZ 5) ?_
      refine aK1 8 ?_
      refine st85.segA 1 [5,6,9,48] [(0,1),(2,2),(8,0),(10,4)] (λ _ _ st86=>?_)
      refine aHN (st86.pkZ 5) ?_
      refine aK1 9 ?_
      refine st86.segB 1 (sc rfl (oK (q5 p73))<|.nil) [5,6,9,49] [(0,1),(2,2),(8,0),(10,4)] (λ _ _ st87=>?_)
      refine aHN (st87.pkZ 5) ?_
      refine aK1 10 ?_
      refine st87.segC 1 [5,6,9,49] [(0,1),(2,2),(8,0),(10,4),(50,4)] (λ _ _ st88=>?_)
      refine aHN (st88.pkZ 5) ?_
      refine aK1 11 ?_
      refine st88.stA 10 4 GCmd.set1 (tp rfl) [5,6,9] [0,2,8] (λ _ _ st90=>?_)
      refine aHN (st90.pkZ 5) ?_
      refine aK0 ?_
      have st91:=st90.clo (s:=5) rfl
      refine za ?_
      cases h80
      exact fx
     ·
      refine st63.segA 1 [5,6,9,41,45] [(0,1),(2,2),(8,0),(10,4)] (λ _ _ st92=>?_)
      refine aHN (st92.pkZ 5) ?_
      refine aK1 2 ?_
      refine st92.segC 1 [5,6,9,41,42,45] [(0,1),(2,2),(8,0),(10,4)] (λ _ _ st93=>?_)
      refine aHN (st93.pkZ 5) ?_
      refine aK1 6 ?_
      refine st93.cNA 1 0 (zB p67) [5,6,9,41] [2,8,10] (λ G94 _ _ _ st95=>?_)
      refine aHN (st95.pkZ 5) ?_
      refine aK1 7 ?_
      refine st95.segA 1 [5,6,9,47] [(0,1),(2,2),(8,0),(10,4)] (λ _ _ st96=>?_)
      refine aHN (st96.pkZ 5) ?_
      refine aK1 8 ?_
      refine st96.segA 1 [5,6,9,48] [(0,1),(2,2),(8,0),(10,4)] (λ _ _ st97=>?_)
      refine aHN (st97.pkZ 5) ?_
      refine aK1 9 ?_
      refine st97.segB 1 (sc rfl (oK (q5 p73))<|.nil) [5,6,9,49] [(0,1),(2,2),(8,0),(10,4)] (λ _ _ st98=>?_)
      refine aHN (st98.pkZ 5) ?_
      refine aK1 10 ?_
      refine st98.segC 1 [5,6,9,49] [(0,1),(2,2),(8,0),(10,4),(50,4)] (λ _ _ st99=>?_)
      refine aHN (st99.pkZ 5) ?_
      refine aK1 11 ?_
      refine st99.stA 10 4 GCmd.set1 (tp rfl) [5,6,9] [0,2,8] (λ _ _ st101=>?_)
      refine aHN (st101.pkZ 5) ?_
      refine aK0 ?_
      have st102:=st101.clo (s:=5) rfl
      refine za ?_
      cases h80
      exact fx
    cases h57
    exact fx
   rintro a49 w49 ⟨M49,q49_0,q49_1,q49_2,q49_3,q49_4,st49⟩
   have h103:=k49
   refine wp_region_list ?_
   refine st49.nmR (s:=8) 0 rfl rfl iI [0,2,10] rfl (λ g104 A104 _ hA104 st104=>?_)
   refine st104.segB 3 (sc rfl (oM rfl (tp rfl))<|sc rfl (zP rfl kT43 (tp rfl))<|sc rfl (ym (opds:=[.tmp 52]) rfl kS27 kY27 rfl rfl (by decide) (.cons (tp rfl) .nil))<|.nil) [5,6,9,53] [(0,1),(2,2),(8,0),(51,0)] (λ _ _ st105=>?_)
   have st107:=st105.unm (s:=51) 0 rfl rfl iI [0,2] rfl
   refine st107.tipR (s:=51) 0 rfl rfl (by simp) iI [0,2] rfl rfl (λ g108 st108=>?_)
   obtain⟨v110,p110,h111⟩:=bs h103
   refine st108.apA 0 yt p110 [5,6,9] [0,2] (λ g109 _ _ _ st109=>?_)
   have st112:=st109.gn
   refine st112.segA 1 [5,6,9] [(0,1),(2,2),(8,0)] (λ _ _ st113=>wpList_nil (zf (za ?_)))
   obtain⟨v114,p114,h115⟩:=bs h111
   refine st113.rgA [5,6,9] [(0,1),(2,2),(8,0)] (λ _ _ st116=>?_)
   have st117:=st116.tipW (s:=8) 0 rfl rfl iI [0,2] rfl
   refine za ?_
   exact fl h115
  refine za ?_
  have h118:=lo h32 hx28
  cases h118
  exact fx
 rintro a20 w20 ⟨M20,q20_0,q20_1,q20_2,q20_3,q20_4,st20⟩
 have h119:=k20
 obtain⟨o120,p120,k120⟩:=bs h119
 refine zk (λ a w=>∃ M1 q120_0 q120_1 q120_2 q120_3 q120_4,Sx (Frm.chg w0 G) 72 M M1 [q120_0,q120_1,oneB q120_2,oneB q120_3,oneB q120_4] [(5,dptr v7.2.1),(6,dt v7.2.2.1)] [(2,2,dbox q120_2 0 WW),(0,1,dnm (Ow.box (Ow.frz (α:=Reader))) q120_1 ⟨o120.1⟩ (.pointer (some ⟨b0,0,none⟩)) []),(8,0,dow (Ow.row 43 (Ow.frz (α:=GCmd))) q120_0 o120.2)] a w) ?_ ?_
 ·
  refine wp_seq (wp_region_list ?_)
  refine st20.nmR (s:=8) 0 rfl rfl iI [0,2] rfl (λ g121 A121 _ hA121 st121=>?_)
  refine st121.segB 5 (sc rfl (oM rfl (tp rfl))<|sc rfl (xLeN rfl kL27 rfl)<|sc rfl (oCI rfl (tp rfl) cI)<|sc rfl (oM rfl (tp rfl))<|sg rfl rfl (λ hg=>oM rfl (zK rfl))<|.nil) [5,6,58,59] [(0,1),(2,2),(8,0)] (λ _ _ st122=>?_)
  obtain⟨v124,p124,h125⟩:=bs p120
  refine st122.cSFgB (sb:=0) (l:=[.const (.int .i64 20)]) 1 rfl iI rfl rfl rfl kN33 (λ hg=>(st122.st.has 59 _ rfl).1 hg) (by simp) (λ hg=>(.cons cI .nil)) (λ hg=>zB (gh hg p124)) [5,6,58] rfl [2,8] rfl rfl (by decide) (λ _ _ _ _ st123=>?_)
  have st126:=st123.gn
  refine st126.segC 2 [5,6,62] [(0,1),(2,2),(8,0)] (λ _ _ st127=>wpList_nil (za ?_))
  refine st127.cs rfl h125 (λ _ h128=>wp_region_list ?_) (λ _ h129=>wp_skip ?_)
  ·
   refine st127.segB 3 (sc rfl (oM rfl (tp rfl))<|sc rfl (oM rfl (zK rfl))<|sc rfl (ym (opds:=[.const (.int .i64 (-1)),.const (.int .i64 3)]) rfl kS26 kY26 rfl rfl (by decide) (.cons cI (.cons cI .nil)))<|.nil) [5,6,64,65] [(0,1),(2,2),(8,0),(63,0)] (λ _ _ st130=>?_)
   obtain⟨v132,p132,h133⟩:=bs h128
   refine st130.cNA 1 0 (yf p132) [5,6] [2,8,63] (λ G131 _ _ _ st134=>?_)
   obtain⟨v135,p135,h136⟩:=bs h133
   refine st134.seg 2 (
    sc rfl (xIaN rfl kS27 rfl cI hA121 p135)<|sc rfl (xFa rfl kF43_0 (tp rfl))<|.nil) [5,6,66,68] rfl [(0,1),(2,2),(8,0),(63,0)] rfl ⟨iI,⟨iI,⟨iI,iT⟩⟩⟩ (λ _ _ st137=>?_)
   refine st137.sfA 8 0 ((PV.root.row rfl hA121 p135).fld GCmd.z0) (tp rfl) (tp rfl) [5,6] [0,2] (λ _ st138=>wpList_nil ?_)
   have st139:=st138.unm (s:=8) 0 rfl rfl iI [0,2] rfl
   refine za ?_
   cases h136
   exact fx
  have st140:=st127.unm (s:=8) 0 rfl rfl iI [0,2] rfl
  refine za ?_
  cases h129
  exact fx
 rintro a120 w120 ⟨M120,q120_0,q120_1,q120_2,q120_3,q120_4,st120⟩
 have h141:=k120
 have st142:=st120.frzW (s:=8) 0 rfl (by simp) iI [5,6] rfl [0,2] rfl rfl
 refine wp_seq (wp_region_list ?_)
 refine st142.segA 3 [69,70,71] [(0,1),(2,2)] (λ _ _ st143=>?_)
 refine st143.stA 2 2 FldS.id (tp rfl) [70,71] [0] (λ _ _ st145=>?_)
 refine st145.segA 2 [3,4] [(0,1),(2,2)] (λ _ _ st146=>wpList_nil (za (wp_ret ?_)))
 exact st146.rs3C (s:=0) 1 rfl kT25 rfl rfl rfl rfl iI (bxr h141)
def yN(x0:List UInt8):Option (Tree×(List Int)×(List GCmd)×Int):=
(qr x0).bind λ v6=>
(j6 v6).bind λ v12=>
(zA v12.1 (20:Int)).bind λ v29=>
(yc v29.1 ([(120:Int),(120:Int),v29.2,(0:Int),(121:Int),(-1:Int)]:List Int)).bind λ v33=>
some (v12.2.1,v12.2.2.1,v12.2.2.2,v33.2)
theorem qC{x0:List UInt8}{r:Tree×(List Int)×(List GCmd)×Int}(h:yN x0=some r):Fn prog 10 [dt x0] (dtup [dt r.1,dt r.2.1,dt r.2.2.1,dt r.2.2.2]):=by
 unfold yN at h
 refine fnx (fn:=f10) 3 func10 rfl (oD rfl) rfl (λ M _ _ st0=>wp_seq (wp_region_list ?_))
 refine st0.alA 1 Y9 [0] [] (λ b2 _ _ _ st2=>?_)
 refine st2.segB 3 (sc rfl (oA rfl (qw (α:=Int)))<|sc rfl (oA rfl (qw (α:=GCmd)))<|segC) [0] [(2,1)] (λ _ _ st3=>wpList_nil (za (wp_seq (wp_region_list ?_))))
 refine st3.segA 1 [10] [(2,1)] (λ _ _ st4=>?_)
 obtain⟨v6,p6,h7⟩:=bs h
 refine st4.cN (l:=[.tmp 10]) 0 rfl rfl kN30 (.cons (tp rfl) .nil) (zao p6) (by simp) [] rfl [2] rfl rfl (λ _ _ _ _ st5=>?_)
 refine st5.nmB (s:=11) 0 rfl rfl iI [2] rfl (λ b8 st8=>?_)
 refine st8.segA 1 [] [(2,1),(6,0)] (λ _ _ st9=>wpList_nil (za (wp_seq (wp_region_list ?_))))
 refine st9.segA 1 [] [(2,1),(6,0),(13,0)] (λ _ _ st10=>?_)
 obtain⟨v12,p12,h13⟩:=bs h7
 refine st10.cSF (l:=[]) 0 (st10.bkN (s:=6) rfl iI) rfl rfl kN31 ((st10.st.has 13 _ rfl).1.trans (st10.st.has 6 _ rfl).1.symm) (by simp) .nil (QN p12) [] rfl [2] rfl rfl (by decide) (λ _ _ _ _ st11=>?_)
 refine st11.segA 4 [15,16,17] [(2,1),(6,0)] (λ _ _ st14=>?_)
 refine st14.alA 2 Y9 [15,16,17] [2,6] (λ b16 _ _ _ st16=>?_)
 refine st16.stA 7 2 FldS.id (tp rfl) [16,17] [2,6] (λ _ _ st18=>?_)
 have st19:=st18.frzX 2 (s:=7) rfl rfl [16,17] rfl [2,6] rfl
 refine st19.segA 2 [7,8,9] [(2,1),(6,0)] (λ _ _ st20=>wpList_nil (za (wp_seq ?_)))
 refine st20.opn (s:=7) rfl (λ b21 o21 c21 st21=>?_)
 refine st21.held (λ w=>CellsAt w b21 o21 c21) zw (λ _ st22=>?_)
 refine st22.tW 0 7 (λ _ st23=>?_)
 refine st23.tM 1 8 (st23.pkZ 7) (λ _ st24=>?_)
 refine st24.tM 2 9 (st24.pkZ 7) (λ _ st25=>?_)
 obtain⟨v29,p29,v33,p33,h41⟩:=bsB h13
 refine aK2 3 4 ?_ ?_
 ·
  refine st25.segA 1 [7,18,19,20] [(2,1),(6,0),(21,0)] (λ _ _ st42=>?_)
  refine aHN (st42.pkZ 7) ?_
  refine aK1 4 ?_
  refine st42.segA 1 [7,18,19,20] [(2,1),(21,0),(22,0)] (λ _ _ st43=>?_)
  refine aHN (st43.pkZ 7) ?_
  refine aK1 5 ?_
  refine st43.cSF (l:=[.const (.int .i64 20)]) 0 (st43.bkN (s:=21) rfl iI) rfl rfl kN33 ((st43.st.has 22 _ rfl).1.trans (st43.st.has 21 _ rfl).1.symm) (by simp) (.cons cI .nil) (zB p29) [7,18,19,20] rfl [2] rfl rfl (by decide) (λ _ _ _ _ st44=>?_)
  refine aHN (st44.pkZ 7) ?_
  refine aK1 6 ?_
  refine st44.segB 1 (sc rfl (ym (opds:=[.const (.int .i64 120),.const (.int .i64 120),.tmp 23,.const (.int .i64 0),.const (.int .i64 121),.const (.int .i64 (-1))]) rfl kS26 kY26 rfl rfl (by decide) (.cons cI (.cons cI (.cons (tp rfl) (.cons cI (.cons cI (.cons cI .nil)))))))<|.nil) [7,18,19,20,24] [(2,1),(21,0)] (λ _ _ st45=>?_)
  refine aHN (st45.pkZ 7) ?_
  refine aK1 7 ?_
  refine st45.cSF (l:=[.tmp 24]) 0 (st45.bkN (s:=21) rfl iI) rfl rfl kN32 rfl (by simp) (.cons (tp rfl) .nil) (yf p33) [7,18,19,20] rfl [2] rfl rfl (by decide) (λ _ _ _ _ st46=>?_)
  refine aHN (st46.pkZ 7) ?_
  refine aK1 8 ?_
  refine st46.stA 2 1 FldS.id (tp rfl) [7,19,20,25] [] (λ _ _ st48=>?_)
  refine aHN (st48.pkZ 7) ?_
  refine aK1 9 ?_
  refine st48.segA 1 [3,7,20,25] [(2,1)] (λ _ _ st49=>?_)
  refine aHN (st49.pkZ 7) ?_
  refine aK1 10 ?_
  refine st49.segA 1 [3,4,7,25] [(2,1)] (λ _ _ st50=>?_)
  refine aHN (st50.pkZ 7) ?_
  refine aK1 11 ?_
  refine st50.segA 1 [3,4,5,7] [(2,1)] (λ _ _ st51=>?_)
  refine aHN (st51.pkZ 7) ?_
  refine aK0 (za (wp_ret ?_))
  obtain rfl:=Option.some.inj h41
  exact st51.ret4c rfl kT25 rfl (st51.frozen (t:=3) rfl) (st51.frozen (t:=4) rfl) (st51.frozen (t:=5) rfl) ⟨rfl,rfl,rfl⟩ rfl
 ·
  refine st25.segA 1 [7,18,19,20] [(2,1),(6,0),(22,0)] (λ _ _ st52=>?_)
  refine aHN (st52.pkZ 7) ?_
  refine aK2 3 5 ?_ ?_
  ·
   refine st52.segA 1 [7,18,19,20] [(2,1),(21,0),(22,0)] (λ _ _ st53=>?_)
   refine aHN (st53.pkZ 7) ?_
   refine aK1 5 ?_
   refine st53.cSF (l:=[.const (.int .i64 20)]) 0 (st53.bkN (s:=21) rfl iI) rfl rfl kN33 ((st53.st.has 22 _ rfl).1.trans (st53.st.has 21 _ rfl).1.symm) (by simp) (.cons cI .nil) (zB p29) [7,18,19,20] rfl [2] rfl rfl (by decide) (λ _ _ _ _ st54=>?_)
   refine aHN (st54.pkZ 7) ?_
   refine aK1 6 ?_
   refine st54.segB 1 (sc rfl (ym (opds:=[.const (.int .i64 120),.const (.int .i64 120),.tmp 23,.const (.int .i64 0),.const (.int .i64 121),.const (.int .i64 (-1))]) rfl kS26 kY26 rfl rfl (by decide) (.cons cI (.cons cI (.cons (tp rfl) (.cons cI (.cons cI (.cons cI .nil)))))))<|.nil) [7,18,19,20,24] [(2,1),(21,0)] (λ _ _ st55=>?_)
   refine aHN (st55.pkZ 7) ?_
   refine aK1 7 ?_
   refine st55.cSF (l:=[.tmp 24]) 0 (st55.bkN (s:=21) rfl iI) rfl rfl kN32 rfl (by simp) (.cons (tp rfl) .nil) (yf p33) [7,18,19,20] rfl [2] rfl rfl (by decide) (λ _ _ _ _ st56=>?_)
   refine aHN (st56.pkZ 7) ?_
   refine aK1 8 ?_
   refine st56.stA 2 1 FldS.id (tp rfl) [7,19,20,25] [] (λ _ _ st58=>?_)
   refine aHN (st58.pkZ 7) ?_
   refine aK1 9 ?_
   refine st58.segA 1 [3,7,20,25] [(2,1)] (λ _ _ st59=>?_)
   refine aHN (st59.pkZ 7) ?_
   refine aK1 10 ?_
   refine st59.segA 1 [3,4,7,25] [(2,1)] (λ _ _ st60=>?_)
   refine aHN (st60.pkZ 7) ?_
   refine aK1 11 ?_
   refine st60.segA 1 [3,4,5,7] [(2,1)] (λ _ _ st61=>?_)
   refine aHN (st61.pkZ 7) ?_
   refine aK0 (za (wp_ret ?_))
   obtain rfl:=Option.some.inj h41
   exact st61.ret4c rfl kT25 rfl (st61.frozen (t:=3) rfl) (st61.frozen (t:=4) rfl) (st61.frozen (t:=5) rfl) ⟨rfl,rfl,rfl⟩ rfl
  ·
   refine st52.cSF (l:=[.const (.int .i64 20)]) 0 (st52.bkN (s:=6) rfl iI) rfl rfl kN33 ((st52.st.has 22 _ rfl).1.trans (st52.st.has 6 _ rfl).1.symm) (by simp) (.cons cI .nil) (zB p29) [7,18,19,20] rfl [2] rfl rfl (by decide) (λ _ _ _ _ st62=>?_)
   refine aHN (st62.pkZ 7) ?_
   refine aK2 3 6 ?_ ?_
   ·
    refine st62.segA 1 [7,18,19,20,23] [(2,1),(21,0)] (λ _ _ st63=>?_)
    refine aHN (st63.pkZ 7) ?_
    refine aK1 6 ?_
    refine st63.segB 1 (sc rfl (ym (opds:=[.const (.int .i64 120),.const (.int .i64 120),.tmp 23,.const (.int .i64 0),.const (.int .i64 121),.const (.int .i64 (-1))]) rfl kS26 kY26 rfl rfl (by decide) (.cons cI (.cons cI (.cons (tp rfl) (.cons cI (.cons cI (.cons cI .nil)))))))<|.nil) [7,18,19,20,24] [(2,1),(21,0)] (λ _ _ st64=>?_)
    refine aHN (st64.pkZ 7) ?_
    refine aK1 7 ?_
    refine st64.cSF (l:=[.tmp 24]) 0 (st64.bkN (s:=21) rfl iI) rfl rfl kN32 rfl (by simp) (.cons (tp rfl) .nil) (yf p33) [7,18,19,20] rfl [2] rfl rfl (by decide) (λ _ _ _ _ st65=>?_)
    refine aHN (st65.pkZ 7) ?_
    refine aK1 8 ?_
    refine st65.stA 2 1 FldS.id (tp rfl) [7,19,20,25] [] (λ _ _ st67=>?_)
    refine aHN (st67.pkZ 7) ?_
    refine aK1 9 ?_
    refine st67.segA 1 [3,7,20,25] [(2,1)] (λ _ _ st68=>?_)
    refine aHN (st68.pkZ 7) ?_
    refine aK1 10 ?_
    refine st68.segA 1 [3,4,7,25] [(2,1)] (λ _ _ st69=>?_)
    refine aHN (st69.pkZ 7) ?_
    refine aK1 11 ?_
    refine st69.segA 1 [3,4,5,7] [(2,1)] (λ _ _ st70=>?_)
    refine aHN (st70.pkZ 7) ?_
    refine aK0 (za (wp_ret ?_))
    obtain rfl:=Option.some.inj h41
    exact st70.ret4c rfl kT25 rfl (st70.frozen (t:=3) rfl) (st70.frozen (t:=4) rfl) (st70.frozen (t:=5) rfl) ⟨rfl,rfl,rfl⟩ rfl
   ·
    refine st62.segB 1 (sc rfl (ym (opds:=[.const (.int .i64 120),.const (.int .i64 120),.tmp 23,.const (.int .i64 0),.const (.int .i64 121),.const (.int .i64 (-1))]) rfl kS26 kY26 rfl rfl (by decide) (.cons cI (.cons cI (.cons (tp rfl) (.cons cI (.cons cI (.cons cI .nil)))))))<|.nil) [7,18,19,20,24] [(2,1),(6,0)] (λ _ _ st71=>?_)
    refine aHN (st71.pkZ 7) ?_
    refine aK1 3 ?_
    refine st71.segA 1 [7,18,19,20,24] [(2,1),(21,0)] (λ _ _ st72=>?_)
    refine aHN (st72.pkZ 7) ?_
    refine aK1 7 ?_
    refine st72.cSF (l:=[.tmp 24]) 0 (st72.bkN (s:=21) rfl iI) rfl rfl kN32 rfl (by simp) (.cons (tp rfl) .nil) (yf p33) [7,18,19,20] rfl [2] rfl rfl (by decide) (λ _ _ _ _ st73=>?_)
    refine aHN (st73.pkZ 7) ?_
    refine aK1 8 ?_
    refine st73.stA 2 1 FldS.id (tp rfl) [7,19,20,25] [] (λ _ _ st75=>?_)
    refine aHN (st75.pkZ 7) ?_
    refine aK1 9 ?_
    refine st75.segA 1 [3,7,20,25] [(2,1)] (λ _ _ st76=>?_)
    refine aHN (st76.pkZ 7) ?_
    refine aK1 10 ?_
    refine st76.segA 1 [3,4,7,25] [(2,1)] (λ _ _ st77=>?_)
    refine aHN (st77.pkZ 7) ?_
    refine aK1 11 ?_
    refine st77.segA 1 [3,4,5,7] [(2,1)] (λ _ _ st78=>?_)
    refine aHN (st78.pkZ 7) ?_
    refine aK0 (za (wp_ret ?_))
    obtain rfl:=Option.some.inj h41
    exact st78.ret4c rfl kT25 rfl (st78.frozen (t:=3) rfl) (st78.frozen (t:=4) rfl) (st78.frozen (t:=5) rfl) ⟨rfl,rfl,rfl⟩ rfl
def jh(x0:List Int)(x1:List Int)(s8:Int):Option (Int⊕(Unit⊕Bool)):=
if(cmpI .lss s8 (x0.length:Int))=true then((atI x0 s8).bind λ v13=>
(atI x1 s8).bind λ v14=>
if(cmpI .neq v13 v14)=true then(some (.inr (.inr false)))
else((i64 (s8+(1:Int))).bind λ v23=>
some (.inl v23)))
else(some (.inr (.inl ())))
def xa(x0:List Int)(x1:List Int):Option Bool:=
if(cmpI .neq (x0.length:Int) (x1.length:Int))=true then(some false)
else(Option.bind (α:=Unit⊕Bool) (zW (λ s8=>jh x0 x1 s8) (0:Int)) (Sum.elim (λ _b6=>
some true) some))
theorem Zz{x0:List Int}{x1:List Int}{r:Bool}(h:xa x0 x1=some r):Fn prog 19 [dt x0,dt x1] (dt r):=by
 unfold xa at h
 refine fnx (fn:=f19) 0 func19 rfl (oD rfl) rfl (λ M w0 _ st0=>?_)
 refine st0.sq1 [0,1] (λ _ _ st1=>wp_seq ?_)
 refine st1.sq1 [0,1,10] (λ _ _ st2=>?_)
 refine st2.cs rfl h (λ _ h3=>?_) (λ _ h4=>wp_skip (za ?_))
 ·
  refine st2.sq1 [4] (λ _ _ st5=>wp_ret (zd ?_))
  exact st5.ret rfl rfl h3
 obtain⟨o6,p6,k6⟩:=bs h4
 refine zk (λ a w=>∃ b6,o6=.inl b6/\Sx (Frm.of w0) 26 M M [] [] [] a w) ?_ ?_
 ·
  refine st2.sq1 [0,1,5] (λ _ _ st7=>wp_block ?_)
  refine zJ p6 (λ s8 a w=>Sx (Frm.of w0) 26 M M [] [(0,dt x0),(1,dt x1),(5,dt s8)] [] a w) (st7.sel0 [0,1,5] rfl) ?_
  rintro s8 z8 a8 w8 st8 hs8 hx8
  have h9:jh x0 x1 s8=some z8:=hs8
  unfold jh at h9
  refine wp_seq ?_
  refine st8.sq1 [0,1,5,14] (λ _ _ st10=>?_)
  refine st10.cs rfl h9 (λ _ h11=>wp_skip (za (wp_seq (wp_block (wp_seq ?_))))) (λ _ h12=>wp_exit (zi (zi (zE ?_))))
  ·
   obtain⟨v13,p13,v14,p14,h16⟩:=bsB h11
   refine st10.drA (D:=[_,_,_,_,_,_,_,_,_]) zw [[(0,nS)],[(5,nS)],[(17,0),(18,1)],[(19,2)],[(1,nS)],[(5,nS)],[(21,4),(22,5)],[(23,6)],[(20,3),(24,7)]] [0,1,5,25] [] (λ _ _ st17=>za ?_)
   refine st17.cs rfl h16 (λ _ h18=>?_) (λ _ h19=>wp_skip (zf (za ?_)))
   ·
    refine st17.sq1 [4] (λ _ _ st20=>wp_ret (zo (zd (zd (zo (zd ?_))))))
    have h21:=lo h18 hx8
    have h22:=jo h21 k6
    exact st20.ret rfl rfl h22
   obtain⟨v23,p23,h24⟩:=bs h19
   refine st17.rg1 [0,1,5] (λ _ _ st25=>za ?_)
   exact⟨_,(Option.some.inj h24).symm,st25.sel0 [0,1,5] rfl⟩
  refine za ?_
  have h26:=lo h12 hx8
  exact⟨_,(Option.some.inj h26).symm,st10.sel0 [] rfl⟩
 rintro a6 w6 ⟨b6,rfl,st6⟩
 have h27:=jn k6
 refine st6.sq1 [4] (λ _ _ st28=>wp_ret ?_)
 exact st28.ret rfl rfl h27
def wU(x0:List GAttr)(x1:List GAttr)(s8:Int):Option (Int⊕(Unit⊕Bool)):=
if(cmpI .lss s8 (x0.length:Int))=true then((atI x0 s8).bind λ v13=>
(atI x1 s8).bind λ v14=>
if(decide (v13≠v14))=true then(some (.inr (.inr false)))
else((i64 (s8+(1:Int))).bind λ v23=>
some (.inl v23)))
else(some (.inr (.inl ())))
def ja(x0:List GAttr)(x1:List GAttr):Option Bool:=
if(cmpI .neq (x0.length:Int) (x1.length:Int))=true then(some false)
else(Option.bind (α:=Unit⊕Bool) (zW (λ s8=>wU x0 x1 s8) (0:Int)) (Sum.elim (λ _b6=>
some true) some))
theorem QO{x0:List GAttr}{x1:List GAttr}{r:Bool}(h:ja x0 x1=some r):Fn prog 38 [dt x0,dt x1] (dt r):=by
 unfold ja at h
 refine fnx (fn:=f38) 0 func38 rfl (oD rfl) rfl (λ M w0 _ st0=>?_)
 refine st0.sq1 [0,1] (λ _ _ st1=>wp_seq ?_)
 refine st1.sq1 [0,1,10] (λ _ _ st2=>?_)
 refine st2.cs rfl h (λ _ h3=>?_) (λ _ h4=>wp_skip (za ?_))
 ·
  refine st2.sq1 [4] (λ _ _ st5=>wp_ret (zd ?_))
  exact st5.ret rfl rfl h3
 obtain⟨o6,p6,k6⟩:=bs h4
 refine zk (λ a w=>∃ b6,o6=.inl b6/\Sx (Frm.of w0) 26 M M [] [] [] a w) ?_ ?_
 ·
  refine st2.sq1 [0,1,5] (λ _ _ st7=>wp_block ?_)
  refine zJ p6 (λ s8 a w=>Sx (Frm.of w0) 26 M M [] [(0,dt x0),(1,dt x1),(5,dt s8)] [] a w) (st7.sel0 [0,1,5] rfl) ?_
  rintro s8 z8 a8 w8 st8 hs8 hx8
  have h9:wU x0 x1 s8=some z8:=hs8
  unfold wU at h9
  refine wp_seq ?_
  refine st8.sq1 [0,1,5,14] (λ _ _ st10=>?_)
  refine st10.cs rfl h9 (λ _ h11=>wp_skip (za (wp_seq (wp_block (wp_seq ?_))))) (λ _ h12=>wp_exit (zi (zi (zE ?_))))
  ·
   obtain⟨v13,p13,v14,p14,h16⟩:=bsB h11
   refine st10.drA (D:=[_,_,_,_,_,_,_,_,_]) zw [[(0,nS)],[(5,nS)],[(17,0),(18,1)],[(19,2)],[(1,nS)],[(5,nS)],[(21,4),(22,5)],[(23,6)],[(20,3),(24,7)]] [0,1,5,25] [] (λ _ _ st17=>?_) (hs:=rc rfl rfl (oM rfl (tp rfl))<|rc rfl rfl (oM rfl (tp rfl))<|rc rfl rfl (xIdx rfl kS47 (tp rfl) (tp rfl) p13)<|rc rfl rfl (zl rfl kT118 (tp rfl))<|rc rfl rfl (oM rfl (tp rfl))<|rc rfl rfl (oM rfl (tp rfl))<|rc rfl rfl (xIdx rfl kS47 (tp rfl) (tp rfl) p14)<|rc rfl rfl (zl rfl kT118 (tp rfl))<|rc rfl rfl (op_neR rfl kR118 (tp rfl) (tp rfl))<|.nil)
   refine za ?_
   refine st17.cs rfl h16 (λ _ h18=>?_) (λ _ h19=>wp_skip (zf (za ?_)))
   ·
    refine st17.sq1 [4] (λ _ _ st20=>wp_ret (zo (zd (zd (zo (zd ?_))))))
    have h21:=lo h18 hx8
    have h22:=jo h21 k6
    exact st20.ret rfl rfl h22
   obtain⟨v23,p23,h24⟩:=bs h19
   refine st17.rg1 [0,1,5] (λ _ _ st25=>za ?_)
   exact⟨_,(Option.some.inj h24).symm,st25.sel0 [0,1,5] rfl⟩
  refine za ?_
  have h26:=lo h12 hx8
  exact⟨_,(Option.some.inj h26).symm,st10.sel0 [] rfl⟩
 rintro a6 w6 ⟨b6,rfl,st6⟩
 have h27:=jn k6
 refine st6.sq1 [4] (λ _ _ st28=>wp_ret ?_)
 exact st28.ret rfl rfl h27
def wA(x0:List GEvent)(x1:List GEvent)(s8:Int):Option (Int⊕(Unit⊕Bool)):=
if(cmpI .lss s8 (x0.length:Int))=true then((atI x0 s8).bind λ v13=>
(atI x1 s8).bind λ v14=>
if(decide (v13≠v14))=true then(some (.inr (.inr false)))
else((i64 (s8+(1:Int))).bind λ v23=>
some (.inl v23)))
else(some (.inr (.inl ())))
def wH(x0:List GEvent)(x1:List GEvent):Option Bool:=
if(cmpI .neq (x0.length:Int) (x1.length:Int))=true then(some false)
else(Option.bind (α:=Unit⊕Bool) (zW (λ s8=>wA x0 x1 s8) (0:Int)) (Sum.elim (λ _b6=>
some true) some))
theorem Qc{x0:List GEvent}{x1:List GEvent}{r:Bool}(h:wH x0 x1=some r):Fn prog 18 [dt x0,dt x1] (dt r):=by
 unfold wH at h
 refine fnx (fn:=f18) 0 func18 rfl (oD rfl) rfl (λ M w0 _ st0=>?_)
 refine st0.sq1 [0,1] (λ _ _ st1=>wp_seq ?_)
 refine st1.sq1 [0,1,10] (λ _ _ st2=>?_)
 refine st2.cs rfl h (λ _ h3=>?_) (λ _ h4=>wp_skip (za ?_))
 ·
  refine st2.sq1 [4] (λ _ _ st5=>wp_ret (zd ?_))
  exact st5.ret rfl rfl h3
 obtain⟨o6,p6,k6⟩:=bs h4
 refine zk (λ a w=>∃ b6,o6=.inl b6/\Sx (Frm.of w0) 26 M M [] [] [] a w) ?_ ?_
 ·
  refine st2.sq1 [0,1,5] (λ _ _ st7=>wp_block ?_)
  refine zJ p6 (λ s8 a w=>Sx (Frm.of w0) 26 M M [] [(0,dt x0),(1,dt x1),(5,dt s8)] [] a w) (st7.sel0 [0,1,5] rfl) ?_
  rintro s8 z8 a8 w8 st8 hs8 hx8
  have h9:wA x0 x1 s8=some z8:=hs8
  unfold wA at h9
  refine wp_seq ?_
  refine st8.sq1 [0,1,5,14] (λ _ _ st10=>?_)
  refine st10.cs rfl h9 (λ _ h11=>wp_skip (za (wp_seq (wp_block (wp_seq ?_))))) (λ _ h12=>wp_exit (zi (zi (zE ?_))))
  ·
   obtain⟨v13,p13,v14,p14,h16⟩:=bsB h11
   refine st10.drA (D:=[_,_,_,_,_,_,_,_,_]) zw [[(0,nS)],[(5,nS)],[(17,0),(18,1)],[(19,2)],[(1,nS)],[(5,nS)],[(21,4),(22,5)],[(23,6)],[(20,3),(24,7)]] [0,1,5,25] [] (λ _ _ st17=>?_) (hs:=rc rfl rfl (oM rfl (tp rfl))<|rc rfl rfl (oM rfl (tp rfl))<|rc rfl rfl (xIdx rfl kS30 (tp rfl) (tp rfl) p13)<|rc rfl rfl (zl rfl kT44 (tp rfl))<|rc rfl rfl (oM rfl (tp rfl))<|rc rfl rfl (oM rfl (tp rfl))<|rc rfl rfl (xIdx rfl kS30 (tp rfl) (tp rfl) p14)<|rc rfl rfl (zl rfl kT44 (tp rfl))<|rc rfl rfl (op_neR rfl kR44 (tp rfl) (tp rfl))<|.nil)
   refine za ?_
   refine st17.cs rfl h16 (λ _ h18=>?_) (λ _ h19=>wp_skip (zf (za ?_)))
   ·
    refine st17.sq1 [4] (λ _ _ st20=>wp_ret (zo (zd (zd (zo (zd ?_))))))
    have h21:=lo h18 hx8
    have h22:=jo h21 k6
    exact st20.ret rfl rfl h22
   obtain⟨v23,p23,h24⟩:=bs h19
   refine st17.rg1 [0,1,5] (λ _ _ st25=>za ?_)
   exact⟨_,(Option.some.inj h24).symm,st25.sel0 [0,1,5] rfl⟩
  refine za ?_
  have h26:=lo h12 hx8
  exact⟨_,(Option.some.inj h26).symm,st10.sel0 [] rfl⟩
 rintro a6 w6 ⟨b6,rfl,st6⟩
 have h27:=jn k6
 refine st6.sq1 [4] (λ _ _ st28=>wp_ret ?_)
 exact st28.ret rfl rfl h27
def xM(x0:GResult)(x1:GResult)(s8:Int):Option (Int⊕(Unit⊕Bool)):=
if(cmpI .lss s8 (x0.modules.length:Int))=true then((atI x0.modules s8).bind λ v13=>
(atI x1.modules s8).bind λ v20=>
(gO ((decide (v13.name≠v20.name)||cmpI .neq v13.kind v20.kind) == false) (xa v13.roots v20.roots)).bind λ v27=>
(gO (((((decide (v13.name≠v20.name)||cmpI .neq v13.kind v20.kind)||(!v27))||(v13.cached != v20.cached))||(v13.done != v20.done)) == false) (ja v13.attrs v20.attrs)).bind λ v28=>
if(((((decide (v13.name≠v20.name)||cmpI .neq v13.kind v20.kind)||(!v27))||(v13.cached != v20.cached))||(v13.done != v20.done))||(!v28))=true then(some (.inr (.inr false)))
else((i64 (s8+(1:Int))).bind λ v37=>
some (.inl v37)))
else(some (.inr (.inl ())))
def yb(x0:GResult)(x1:GResult):Option Bool:=
if(cmpI .neq (x0.modules.length:Int) (x1.modules.length:Int))=true then(some false)
else(Option.bind (α:=Unit⊕Bool) (zW (λ s8=>xM x0 x1 s8) (0:Int)) (Sum.elim (λ _b6=>
(xa x0.ends x1.ends).bind λ v42=>
(gO (v42 == true) (xa x0.out x1.out)).bind λ v43=>
(gO ((v42&&v43) == true) (wH x0.log x1.log)).bind λ v44=>
some (((v42&&v43)&&v44)&&cmpI .eql x0.left x1.left)) some))
theorem wI{x0:GResult}{x1:GResult}{r:Bool}(h:yb x0 x1=some r):Fn prog 12 [dt x0,dt x1] (dt r):=by
 unfold yb at h
 refine fnx (fn:=f12) 2 func12 rfl (oD rfl) rfl (λ M w0 _ st0=>?_)
 refine st0.sq1 [2,3] (λ _ _ st1=>wp_seq ?_)
 refine st1.sq1 [2,3,14] (λ _ _ st2=>?_)
 refine st2.cs rfl h (λ _ h3=>?_) (λ _ h4=>wp_skip (za ?_))
 ·
  refine st2.sq1 [4] (λ _ _ st5=>wp_ret (zd ?_))
  exact st5.ret rfl rfl h3
 obtain⟨o6,p6,k6⟩:=bs h4
 refine zk (λ a w=>∃ b6,o6=.inl b6/\(∃ M1 q6_0 q6_1,Sx (Frm.of w0) 100 M M1 [oneB q6_0,oneB q6_1] [(2,dptr x0),(3,dptr x1)] [] a w)) ?_ ?_
 ·
  refine st2.sq1 [2,3,5] (λ _ _ st7=>wp_block ?_)
  refine zJ p6 (λ s8 a w=>∃ M1 q8_0 q8_1,Sx (Frm.of w0) 100 M M1 [oneB q8_0,oneB q8_1] [(2,dptr x0),(3,dptr x1),(5,dt s8)] [] a w) fx ?_
  rintro s8 z8 a8 w8 ⟨M8,q8_0,q8_1,st8⟩ hs8 hx8
  have h9:xM x0 x1 s8=some z8:=hs8
  unfold xM at h9
  refine wp_seq ?_
  refine st8.sq1 [2,3,5,19] (λ _ _ st10=>?_)
  refine st10.cs rfl h9 (λ _ h11=>wp_skip (za (wp_seq (wp_block (wp_seq (wp_region_list ?_)))))) (λ _ h12=>wp_exit (zi (zi (zE ?_))))
  ·
   obtain⟨v13,p13,h14⟩:=bs h11
   refine st10.segA 5 [2,3,5,26] [] (λ _ _ st15=>?_)
   refine st15.alA 0 zrGMod [2,3,5,26] [] (λ b17 _ _ _ st17=>?_)
   refine st17.stA 6 0 FldS.id (tp rfl) [2,3,5] [] (λ _ _ st19=>wpList_nil (za (wp_seq (wp_region_list ?_))))
   obtain⟨v20,p20,h21⟩:=bs h14
   refine st19.segA 5 [2,3,5,31] [(6,0)] (λ _ _ st22=>?_)
   refine st22.alA 1 zrGMod [2,3,5,31] [6] (λ b24 _ _ _ st24=>?_)
   refine st24.stA 7 1 FldS.id (tp rfl) [2,3,5] [6] (λ _ _ st26=>wpList_nil (za ?_))
   obtain⟨v27,p27,v28,p28,h30⟩:=bsB h21
   refine st26.sq2 (sP 17 (r:=by exact sg rfl rfl (λ hg=>oK (Zz (gh hg p27)))<|sP 7 (r:=by exact sg rfl rfl (λ hg=>op_neT rfl kV4 (ze hg rfl) (ze hg rfl))<|sP 6 (r:=by exact sg rfl rfl (λ hg=>op_neT rfl kV4 (ze hg rfl) (ze hg rfl))<|sP 6 (r:=by exact sg rfl rfl (λ hg=>oK (QO (gh hg p28)))<|segC))))) [2,3,5,73] (λ _ _ st31=>?_)
   refine st31.cs rfl h30 (λ _ h32=>?_) (λ _ h33=>wp_skip (zf (za ?_)))
   ·
    refine st31.sq1 [4] (λ _ _ st34=>wp_ret (zo (zd (zd (zo (zd ?_))))))
    have h35:=lo h32 hx8
    have h36:=jo h35 k6
    exact st34.ret rfl rfl h36
   obtain⟨v37,p37,h38⟩:=bs h33
   refine st31.rg1 [2,3,5] (λ _ _ st39=>za ?_)
   exact fl h38
  refine za ?_
  have h40:=lo h12 hx8
  exact fl h40
 rintro a6 w6 ⟨b6,rfl,⟨M6,q6_0,q6_1,st6⟩⟩
 have h41:=jn k6
 obtain⟨v42,p42,v43,p43,v44,p44,h47⟩:=bsC h41
 refine st6.sq2 (sP 4 (r:=by exact sc rfl (oK (Zz p42))<|sP 5 (r:=by exact sg rfl rfl (λ hg=>oK (Zz (gh hg p43)))<|sP 6 (r:=by exact sg rfl rfl (λ hg=>oK (Qc (gh hg p44)))<|segC)))) [4] (λ _ _ st48=>wp_ret ?_)
 exact st48.ret rfl rfl h47
end Go.Proofs.YtnlhpkbphdbknaaGreatDoor
