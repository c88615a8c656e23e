/-
  Models of functions, and their walks: printed by a program of our own (wip/mxo.py).
  Models of functions, and their walks: printed by a program of our own (wip/mxo.py).
-/
import Derived.Test.YtiiiokblnnlapaaGreatDoorRNLG
namespace Go.Proofs.YtiiiokblnnlapaaGreatDoor
open Go.RowKit
set_option maxRecDepth 10000
set_option maxHeartbeats 1600000
theorem kN80:fnB Tryz.prog 80=true:=by kernel_rfl
theorem kI92:sliB Tryz.prog 92 173 5=true:=by kernel_rfl
def yB(s35:Reader×Tree×Int)(s58:Reader×(List Stmt)×Int):Option ((Reader×(List Stmt)×Int)⊕(Reader×(List Stmt))):=
if(cmpI .gtr s58.2.2 (0:Int)&&cmpI .gtr s35.2.2 (0:Int))=true then(Option.bind (α:=Reader×(List Stmt)) ((zz s58.1 s35.2.2).bind λ v73=>
(atI s35.2.1.files v73.2).bind λ v76=>
(jP v76).bind λ v79=>
(y8 v79).bind λ v94=>
(gO ((!v94) == false) (xP v79)).bind λ v95=>
(gO (((!v94) == false)&&(decide (v95≠(⟨[]⟩:Str)) == true)) (zz v73.1 (2:Int))).bind λ v100=>
if((!v94)||(decide (v95≠(⟨[]⟩:Str))&&cmpI .eql v100.2 (0:Int)))=true then(some ((if(((!v94) == false)&&(decide (v95≠(⟨[]⟩:Str)) == true))=true then v100.1 else v73.1),s58.2.1))
else((zX (if(((!v94) == false)&&(decide (v95≠(⟨[]⟩:Str)) == true))=true then v100.1 else v73.1) ([(0:Int),(0:Int),(2:Int)]:List Int)).bind λ v110=>
(appO 56 s58.2.1 ([(⟨v110.2,v79,0,⟨[]⟩,0⟩:Stmt)]:List Stmt)).bind λ v118=>
some (v110.1,v118))) λ o63=>
(i64 (s58.2.2 - (1:Int))).bind λ v125=>
some (.inl (o63.1,o63.2,v125)))
else(some (.inr (s58.1,s58.2.1)))
def yO(s35:Reader×Tree×Int):Option ((Reader×Tree×Int)⊕(Reader×Tree)):=
if(cmpI .lss s35.2.2 (s35.2.1.files.length:Int))=true then(Option.bind (α:=Reader×Tree) (Option.bind (α:=Reader×(List Stmt)) ((zz s35.1 (3:Int)).bind λ v52=>
zL (λ s58=>yB s35 s58) (v52.1,[(⟨(3:Int),⟨[]⟩,0,(⟨[120]⟩:Str),s35.2.2⟩:Stmt)],v52.2)) λ o49=>
(atI s35.2.1.files s35.2.2).bind λ v133=>
some (o49.1,(⟨(s35.2.1.files.set s35.2.2.toNat ({ v133 with body:=o49.2 }))⟩:Tree))) λ o43=>
(i64 (s35.2.2+(1:Int))).bind λ v139=>
some (.inl (o43.1,o43.2,v139)))
else(some (.inr (s35.1,s35.2.1)))
def j9(x0:Reader):Option (Reader×Tree×(List Int)×Str):=
(qA x0).bind λ v6=>
(zz v6.1 (3:Int)).bind λ v19=>
if(cmpI .eql v19.2 (0:Int))=true then(some (v19.1,v6.2.1,v6.2.2.1,v6.2.2.2))
else(Option.bind (α:=Reader×Tree) (zL (λ s35=>yO s35) (v19.1,v6.2.1,(0:Int))) λ o31=>
some (o31.1,o31.2,v6.2.2.1,v6.2.2.2))
theorem QI{x0:Reader}{r:Reader×Tree×(List Int)×Str}(h:j9 x0=some r):FnS Tryz.prog 90 (Ow.box (Ow.frz (α:=Reader))) ⟨x0⟩ [] ⟨r.1⟩ (.t3 (owTree (Ow.row 94 (Ow.frz (α:=File)))) r.2.1 (dt r.2.2.1) (dt r.2.2.2)):=by
 unfold j9 at h
 refine fnSB (fn:=Tryz.f90) 4 9 Tryz.func90 rfl (of_decide_eq_true rfl) rfl (λ M G w0 b0 a0 st0=>?_)
 refine wp_seq (wp_region_list ?_)
 refine st0.alcW (ow:=(owTree (Ow.row 94 (Ow.frz (α:=File))))) 7 rfl rfl kZ30 (owTree.z Ow.row_z) (by simp) [] rfl [0] rfl rfl (λ b1 M1 a1 w1 st1=>?_)
 have st2:=st1.gs (Gs':=[oneB none,oneB none,oneB none,oneB none,G,oneB none,oneB none,(oneB (some b1)),oneB none]) rfl
 refine st2.seg 2 (
  sc rfl (oA rfl (wO (α:=Int)))<|sc rfl (oA rfl (zv (by decide)))<|.nil) [] rfl [(0,4),(2,7)] rfl ⟨iI,⟨iI,trivial⟩⟩ (λ a3 w3 st3=>?_)
 refine wpList_nil (za (wp_seq (wp_region_list ?_)))
 refine st3.seg 1 (
  sc rfl (oM rfl (tp rfl))<|.nil) [] rfl [(0,4),(2,7),(13,4)] rfl ⟨iI,⟨iI,⟨iI,trivial⟩⟩⟩ (λ a4 w4 st4=>?_)
 obtain⟨v6,p6,h7⟩:=bs h
 refine st4.cSO (l:=[]) 4 0 (st4.bkN (s:=0) rfl iI) rfl rfl kN80 ((st4.st.has 13 _ rfl).1.trans (st4.st.has 0 _ rfl).1.symm) (by simp) (by simp) (by decide) .nil (spec_nameOf_w p6) [] rfl [2] rfl rfl rfl rfl (by decide) (λ G5 H5 M5 a5 w5 st5=>?_)
 have st8:=st5.gs (Gs':=[H5,oneB none,oneB none,oneB none,G5,oneB none,oneB none,(oneB (some b1)),oneB none]) rfl
 refine st8.mvD (s:=14) 0 rfl rfl rfl rfl iI rfl [0,2] rfl (λ a9 st9=>?_)
 refine st9.ex3 (s:=12) 0 rfl rfl rfl rfl iI rfl [0,2] rfl (λ a10 st10=>?_)
 refine st10.seg 2 (
  sc rfl (xEx1 rfl (tp rfl))<|sc rfl (xEx2 rfl (tp rfl))<|.nil) [16,17] rfl [(0,4),(2,7),(15,0)] rfl ⟨iI,⟨iI,⟨iI,trivial⟩⟩⟩ (λ a11 w11 st11=>?_)
 refine st11.alcW (ow:=(owTree (Ow.row 94 (Ow.frz (α:=File))))) 8 rfl rfl kZ30 (owTree.z Ow.row_z) (by simp) [16,17] rfl [0,2,15] rfl rfl (λ b12 M12 a12 w12 st12=>?_)
 have st13:=st12.gs (Gs':=[H5,oneB none,oneB none,oneB none,G5,oneB none,oneB none,(oneB (some b1)),(oneB (some b12))]) rfl
 refine st13.stO (sb:=5) (tv:=15) 8 0 (PV.root.box rfl) rfl rfl rfl kT30 (by simp) (by simp) (by decide) (zE rfl) rfl rfl rfl iI iI [16,17] rfl [0,2] rfl rfl rfl (λ G14 w14 st14=>?_)
 have st15:=st14.gs (Gs':=[oneB none,oneB none,oneB none,oneB none,G5,oneB none,oneB none,(oneB (some b1)),G14]) rfl
 refine st15.seg 2 (
  sc rfl (oA rfl (tp rfl))<|sc rfl (oA rfl (tp rfl))<|.nil) [6,7] rfl [(0,4),(2,7),(5,8)] rfl ⟨iI,⟨iI,⟨iI,trivial⟩⟩⟩ (λ a16 w16 st16=>?_)
 refine wpList_nil (za (wp_seq (wp_seq (wp_region_list ?_))))
 refine st16.seg 1 (
  sc rfl (oM rfl (tp rfl))<|.nil) [6,7] rfl [(0,4),(2,7),(5,8),(18,4)] rfl ⟨iI,⟨iI,⟨iI,⟨iI,trivial⟩⟩⟩⟩ (λ a17 w17 st17=>?_)
 obtain⟨v19,p19,h20⟩:=bs h7
 refine st17.cSF (l:=[.const (.int .i64 3)]) 4 (st17.bkN (s:=0) rfl iI) rfl rfl jQ ((st17.st.has 18 _ rfl).1.trans (st17.st.has 0 _ rfl).1.symm) (by simp) (.cons cI .nil) (zD p19) [6,7] rfl [2,5] rfl rfl (by decide) (λ G18 M18 a18 w18 st18=>?_)
 have st21:=st18.gs (Gs':=[oneB none,oneB none,oneB none,oneB none,G18,oneB none,oneB none,(oneB (some b1)),G14]) rfl
 refine st21.seg 1 (
  sc rfl (oCI rfl (tp rfl) cI)<|.nil) [6,7,20] rfl [(0,4),(2,7),(5,8)] rfl ⟨iI,⟨iI,⟨iI,trivial⟩⟩⟩ (λ a22 w22 st22=>?_)
 refine wpList_nil (za ?_)
 refine st22.cs (c:=20) rfl h20 (λ c23 h23=>?_) (λ c24 h24=>?_)
 ·
  refine wp_seq (wp_region_list ?_)
  refine st22.ldW (sb:=5) 8 rfl rfl kT30 rfl (by simp) iI [6,7] rfl [0,2] rfl rfl (λ a25 w25 st25=>?_)
  refine st25.seg 2 (
   sc rfl (oM rfl (tp rfl))<|sc rfl (oM rfl (tp rfl))<|.nil) [22,23] rfl [(0,4),(2,7),(21,8)] rfl ⟨iI,⟨iI,⟨iI,trivial⟩⟩⟩ (λ a26 w26 st26=>?_)
  refine st26.stO (sb:=2) (tv:=21) 7 8 (PV.root.box rfl) rfl rfl rfl kT30 (by simp) (by simp) (by decide) (zE rfl) rfl rfl rfl iI iI [22,23] rfl [0] rfl rfl rfl (λ G27 w27 st27=>?_)
  have st28:=st27.gs (Gs':=[oneB none,oneB none,oneB none,oneB none,G18,oneB none,oneB none,G27,oneB none]) rfl
  refine st28.seg 2 (
   sc rfl (oA rfl (tp rfl))<|sc rfl (oA rfl (tp rfl))<|.nil) [3,4] rfl [(0,4),(2,7)] rfl ⟨iI,⟨iI,trivial⟩⟩ (λ a29 w29 st29=>?_)
  refine wpList_nil (za ?_)
  refine wp_ret (zh ?_)
  obtain rfl:=Option.some.inj h23
  exact st29.rs3O (s:=0) 4 7 rfl kT30 rfl rfl rfl rfl ⟨rfl,rfl⟩ iI iI (by decide) ⟨rfl,rfl⟩
 ·
  refine wp_skip (za ?_)
  obtain⟨o31,p31,k31⟩:=bs h24
  refine zo (λ a w=>∃ M1 q31_0 q31_1 q31_2 q31_3 q31_4 q31_5 q31_6 q31_7 q31_8,Sx (Frm.chg w0 G) 82 M M1 [q31_0,q31_1,q31_2,q31_3,q31_4,q31_5,q31_6,q31_7,q31_8] [(6,dt v6.2.2.1),(7,dt v6.2.2.2)] [(0,4,dnm (Ow.box (Ow.frz (α:=Reader))) q31_4 ⟨o31.1⟩ (.pointer (some ⟨b0,0,none⟩)) []),(2,7,dow (Ow.box (owTree (Ow.row 94 (Ow.frz (α:=File))))) q31_7 ⟨Yn⟩),(5,8,dow (Ow.box (owTree (Ow.row 94 (Ow.frz (α:=File))))) q31_8 ⟨o31.2⟩)] a w) ?_ ?_
  ·
   refine st22.sq (sc rfl (oA rfl cI)<|.nil) [6,7,8] rfl [(0,4),(2,7),(5,8)] rfl ⟨iI,⟨iI,⟨iI,trivial⟩⟩⟩ (λ a32 w32 st32=>?_)
   refine wp_block ?_
   have st33:=st32.unm (s:=2) 7 rfl rfl iI [0,5] rfl
   have st34:=st33.unm (s:=5) 8 rfl rfl iI [0,2] rfl
   refine zI p31 (λ s35 a w=>∃ M1 q35_0 q35_1 q35_2 q35_3 q35_4 q35_5 q35_6 q35_7 q35_8,Sx (Frm.chg w0 G) 82 M M1 [q35_0,q35_1,q35_2,q35_3,q35_4,q35_5,q35_6,q35_7,q35_8] [(6,dt v6.2.2.1),(7,dt v6.2.2.2),(8,dt s35.2.2)] [(0,4,dnm (Ow.box (Ow.frz (α:=Reader))) q35_4 ⟨s35.1⟩ (.pointer (some ⟨b0,0,none⟩)) []),(2,7,dow (Ow.box (owTree (Ow.row 94 (Ow.frz (α:=File))))) q35_7 ⟨Yn⟩),(5,8,dow (Ow.box (owTree (Ow.row 94 (Ow.frz (α:=File))))) q35_8 ⟨s35.2.1⟩)] a w) ⟨_,_,_,_,_,_,_,_,_,_,st34.sel [6,7,8] rfl [(0,4),(2,7),(5,8)] rfl ⟨iI,⟨iI,⟨iI,trivial⟩⟩⟩⟩ ?_
   rintro s35 x35 a35 w35 ⟨M35,q35_0,q35_1,q35_2,q35_3,q35_4,q35_5,q35_6,q35_7,q35_8,st35⟩ hs35 hx35
   have h36:yO s35=some x35:=hs35
   unfold yO at h36
   refine wp_seq ?_
   refine st35.nmB (s:=5) 8 rfl rfl iI [0,2] rfl (λ b37 st37=>?_)
   refine st37.hdR (s:=5) 8 true (λ _=>((PV.root.box rfl).fld owTree.f0)) rfl rfl iI [0,2] rfl (λ g38 A38 c38 hA38 st38=>?_)
   refine st38.sq (sc rfl (oM rfl (tp rfl))<|sc rfl (xFa rfl wz (zE rfl))<|sc rfl (xLc (sb:=5) (.head _) rfl rfl rfl kT28 (tp rfl) rfl)<|sc rfl (xLe rfl kL28 (tp rfl))<|sc rfl (oCI rfl (tp rfl) (tp rfl))<|.nil) [6,7,8,28] rfl [(0,4),(2,7),(5,8)] rfl ⟨iI,⟨iI,⟨iI,trivial⟩⟩⟩ (λ a39 w39 st39=>?_)
   have st40:=st39.ncf (s:=5) 8 rfl rfl iI [0,2] rfl
   refine st40.cs (c:=28) rfl h36 (λ c41 h41=>?_) (λ c42 h42=>?_)
   ·
    refine wp_skip (za ?_)
    obtain⟨o43,p43,k43⟩:=bs h41
    refine zo (λ a w=>∃ M1 q43_0 q43_1 q43_2 q43_3 q43_4 q43_5 q43_6 q43_7 q43_8,Sx (Frm.chg w0 G) 82 M M1 [q43_0,q43_1,q43_2,q43_3,q43_4,q43_5,q43_6,q43_7,q43_8] [(6,dt v6.2.2.1),(7,dt v6.2.2.2),(8,dt s35.2.2)] [(0,4,dnm (Ow.box (Ow.frz (α:=Reader))) q43_4 ⟨o43.1⟩ (.pointer (some ⟨b0,0,none⟩)) []),(2,7,dow (Ow.box (owTree (Ow.row 94 (Ow.frz (α:=File))))) q43_7 ⟨Yn⟩),(5,8,dow (Ow.box (owTree (Ow.row 94 (Ow.frz (α:=File))))) q43_8 ⟨o43.2⟩)] a w) ?_ ?_
    ·
     refine wp_block (wp_seq (wp_region_list ?_))
     refine st40.seg 2 (
       sc rfl (oM rfl (tp rfl))<|sc rfl (yj (parts:=[(0,.const (.int .i64 3)),(3,_),(4,.tmp 31)]) (ns:=[1,1,1,1,1]) (zs:=Ze) rfl rfl Xj Xk (λ w a hl=>by
 intro p hp;simp only[List.mem_cons,List.not_mem_nil,or_false] at hp
 rcases hp with rfl | rfl | rfl
 ·
  exact⟨by decide,rfl⟩
 ·
  exact⟨by decide,rfl⟩
 ·
  exact⟨by decide,Rep.len (α:=Int) (OpdR.cells (tp rfl) hl)⟩) (λ w a hl=>Stmt.parts (x:=(⟨(3:Int),⟨[]⟩,0,(⟨[120]⟩:Str),s35.2.2⟩:Stmt)) (OpdR.cells cI hl) yS ⟨rfl,trivial⟩ (OpdR.cells (zv (by decide)) hl) (OpdR.cells (tp rfl) hl)))<|.nil) [6,7,8,32] rfl [(0,4),(2,7),(5,8)] rfl ⟨iI,⟨iI,⟨iI,trivial⟩⟩⟩ (λ a44 w44 st44=>?_)
     refine st44.litW (oe:=(Ow.frz (α:=Stmt))) (opds:=[.tmp 32]) (xs:=[(⟨(3:Int),⟨[]⟩,0,(⟨[120]⟩:Str),s35.2.2⟩:Stmt)]) 5 [] rfl rfl kI92 kY92 rfl rfl (by decide) rfl (by decide) (rowW_lit (oe:=(Ow.frz (α:=Stmt))) (G1:=noB) (qc (st44.st.has 32 _ rfl)) (λ _ h=>h.elim)) (λ q hq=>by
 simp only[List.mem_cons,List.not_mem_nil,or_false] at hq
 subst hq
 exact Rep.len (qc (st44.st.has 32 _ rfl))) (by simp) [6,7,8] rfl [0,2,5] rfl rfl rfl (by decide) (λ G45 M45 a45 w45 st45=>?_)
     have st46:=st45.gs (Gs':=[q35_0,q35_1,q35_2,q35_3,q35_4,G45,q35_6,q35_7,q35_8]) rfl
     refine st46.nmR (s:=33) 5 rfl rfl iI [0,2,5] rfl (λ g47 A47 c47 hA47 st47=>?_)
     refine st47.seg 1 (
       sc rfl (oA rfl (tp rfl))<|.nil) [6,7,8] rfl [(0,4),(2,7),(5,8),(9,5)] rfl ⟨iI,⟨iI,⟨iI,⟨iI,trivial⟩⟩⟩⟩ (λ a48 w48 st48=>?_)
     refine wpList_nil (za ?_)
     obtain⟨o49,p49,k49⟩:=bs p43
     refine zo (λ a w=>∃ M1 q49_0 q49_1 q49_2 q49_3 q49_4 q49_5 q49_6 q49_7 q49_8,Sx (Frm.chg w0 G) 82 M M1 [q49_0,q49_1,q49_2,q49_3,q49_4,q49_5,q49_6,q49_7,q49_8] [(6,dt v6.2.2.1),(7,dt v6.2.2.2),(8,dt s35.2.2)] [(0,4,dnm (Ow.box (Ow.frz (α:=Reader))) q49_4 ⟨o49.1⟩ (.pointer (some ⟨b0,0,none⟩)) []),(2,7,dow (Ow.box (owTree (Ow.row 94 (Ow.frz (α:=File))))) q49_7 ⟨Yn⟩),(5,8,dow (Ow.box (owTree (Ow.row 94 (Ow.frz (α:=File))))) q49_8 ⟨s35.2.1⟩),(9,5,dow (Ow.row 173 (Ow.frz (α:=Stmt))) q49_5 o49.2)] a w) ?_ ?_
     ·
      refine wp_seq (wp_region_list ?_)
      refine st48.seg 1 (
        sc rfl (oM rfl (tp rfl))<|.nil) [6,7,8] rfl [(0,4),(2,7),(5,8),(9,5),(34,4)] rfl ⟨iI,⟨iI,⟨iI,⟨iI,⟨iI,trivial⟩⟩⟩⟩⟩ (λ a50 w50 st50=>?_)
      obtain⟨v52,p52,h53⟩:=bs p49
      refine st50.cSF (l:=[.const (.int .i64 3)]) 4 (st50.bkN (s:=0) rfl iI) rfl rfl jQ ((st50.st.has 34 _ rfl).1.trans (st50.st.has 0 _ rfl).1.symm) (by simp) (.cons cI .nil) (zD p52) [6,7,8] rfl [2,5,9] rfl rfl (by decide) (λ G51 M51 a51 w51 st51=>?_)
      have st54:=st51.gs (Gs':=[q35_0,q35_1,q35_2,q35_3,G51,G45,q35_6,q35_7,q35_8]) rfl
      refine st54.seg 1 (
        sc rfl (oA rfl (tp rfl))<|.nil) [6,7,8,10] rfl [(0,4),(2,7),(5,8),(9,5)] rfl ⟨iI,⟨iI,⟨iI,⟨iI,trivial⟩⟩⟩⟩ (λ a55 w55 st55=>?_)
      refine wpList_nil (za (wp_block ?_))
      have st56:=st55.unm (s:=5) 8 rfl rfl iI [0,2,9] rfl
      have st57:=st56.unm (s:=9) 5 rfl rfl iI [0,2,5] rfl
      refine zI h53 (λ s58 a w=>∃ M1 q58_0 q58_1 q58_2 q58_3 q58_4 q58_5 q58_6 q58_7 q58_8,Sx (Frm.chg w0 G) 82 M M1 [q58_0,q58_1,q58_2,q58_3,q58_4,q58_5,q58_6,q58_7,q58_8] [(6,dt v6.2.2.1),(7,dt v6.2.2.2),(8,dt s35.2.2),(10,dt s58.2.2)] [(0,4,dnm (Ow.box (Ow.frz (α:=Reader))) q58_4 ⟨s58.1⟩ (.pointer (some ⟨b0,0,none⟩)) []),(2,7,dow (Ow.box (owTree (Ow.row 94 (Ow.frz (α:=File))))) q58_7 ⟨Yn⟩),(5,8,dow (Ow.box (owTree (Ow.row 94 (Ow.frz (α:=File))))) q58_8 ⟨s35.2.1⟩),(9,5,dow (Ow.row 173 (Ow.frz (α:=Stmt))) q58_5 s58.2.1)] a w) ⟨_,_,_,_,_,_,_,_,_,_,st57.sel [6,7,8,10] rfl [(0,4),(2,7),(5,8),(9,5)] rfl ⟨iI,⟨iI,⟨iI,⟨iI,trivial⟩⟩⟩⟩⟩ ?_
      rintro s58 x58 a58 w58 ⟨M58,q58_0,q58_1,q58_2,q58_3,q58_4,q58_5,q58_6,q58_7,q58_8,st58⟩ hs58 hx58
      have h59:yB s35 s58=some x58:=hs58
      unfold yB at h59
      refine wp_seq ?_
      refine st58.sq (sc rfl (oM rfl (tp rfl))<|sc rfl (oCI rfl (tp rfl) cI)<|sc rfl (oM rfl (tp rfl))<|sg rfl rfl (λ hg=>oM rfl (tp rfl))<|sg rfl rfl (λ hg=>oCI rfl (zj hg rfl) cI)<|sc rfl (zQ rfl (tp rfl) (zb rfl))<|.nil) [6,7,8,10,41] rfl [(0,4),(2,7),(5,8),(9,5)] rfl ⟨iI,⟨iI,⟨iI,⟨iI,trivial⟩⟩⟩⟩ (λ a60 w60 st60=>?_)
      refine st60.cs (c:=41) rfl h59 (λ c61 h61=>?_) (λ c62 h62=>?_)
      ·
       refine wp_skip (za ?_)
       obtain⟨o63,p63,k63⟩:=bs h61
       refine zo (λ a w=>∃ M1 q63_0 q63_1 q63_2 q63_3 q63_4 q63_5 q63_6 q63_7 q63_8,Sx (Frm.chg w0 G) 82 M M1 [q63_0,q63_1,q63_2,q63_3,q63_4,q63_5,q63_6,q63_7,q63_8] [(6,dt v6.2.2.1),(7,dt v6.2.2.2),(8,dt s35.2.2),(10,dt s58.2.2)] [(0,4,dnm (Ow.box (Ow.frz (α:=Reader))) q63_4 ⟨o63.1⟩ (.pointer (some ⟨b0,0,none⟩)) []),(2,7,dow (Ow.box (owTree (Ow.row 94 (Ow.frz (α:=File))))) q63_7 ⟨Yn⟩),(5,8,dow (Ow.box (owTree (Ow.row 94 (Ow.frz (α:=File))))) q63_8 ⟨s35.2.1⟩),(9,5,dow (Ow.row 173 (Ow.frz (α:=Stmt))) q63_5 o63.2)] a w) ?_ ?_
       ·
        refine wp_block (wp_seq ?_)
        refine st60.nmB (s:=5) 8 rfl rfl iI [0,2,9] rfl (λ b64 st64=>?_)
        refine st64.hdR (s:=5) 8 true (λ _=>((PV.root.box rfl).fld owTree.f0)) rfl rfl iI [0,2,9] rfl (λ g65 A65 c65 hA65 st65=>?_)
        refine st65.held (λ w=>w.cell? ⟨b64,0,none⟩=some (.slice A65 (s35.2.1.files.length) c65)) zR (λ w66 st66=>?_)
        refine st66.tk (i:=0) rfl rfl (by decide +kernel) (by decide +kernel) (by decide +kernel) (λ _ _ _ h=>h) (st66.cellS (sb:=5) rfl (.head _) rfl rfl) (yFa rfl wz (st66.st.has 5 _ rfl).1) (λ a67 st67=>?_)
        refine st67.tk (i:=1) rfl rfl (by decide +kernel) (by decide +kernel) (by decide +kernel) (λ _ _ _ h=>h) (st67.cellS (sb:=5) rfl (.head _) rfl rfl) (yLd rfl kT28 (st67.st.has 44 _ rfl) (λ _ h=>h)) (λ a68 st68=>?_)
        refine st68.tkM (i:=3) (sb:=8) rfl rfl (by decide +kernel) (by decide +kernel) (by decide +kernel) (λ _ _ _ _ h=>h) (st68.cellS (sb:=5) rfl (.head _) rfl rfl) rfl rfl rfl rfl (λ a69 st69=>?_)
        refine st69.mvN (s:=45) (sb:=5) 8 3 ((PV.root.box rfl).fld owTree.f0) (.head _) rfl (qy rfl rfl) rfl rfl (by simp) (by simp) (by decide) rfl iI [6,7,8,10,41,44,47] rfl [0,2,9] rfl rfl rfl rfl (by decide) (λ G70 H70 st70=>?_)
        obtain⟨v73,p73,h82⟩:=bs p63
        obtain⟨v76,p76,h83⟩:=bs h82
        obtain⟨v79,p79,h84⟩:=bs h83
        refine aH1 (i:=2) (by decide +kernel) rfl ?_
        refine st70.seg 1 (sc rfl (oM rfl (tp rfl))<|.nil) [6,7,8,10,47] rfl [(0,4),(2,7),(5,8),(9,5),(45,3),(46,4)] rfl ⟨iI,⟨iI,⟨iI,⟨iI,⟨iI,⟨iI,trivial⟩⟩⟩⟩⟩⟩ (λ a85 w85 st85=>?_)
        refine aHN (st85.hkS (sb:=5) rfl) ?_
        refine aH1 (i:=4) (by decide +kernel) rfl ?_
        refine st85.cSF (l:=[.tmp 47]) 4 (st85.bkN (s:=0) rfl iI) rfl rfl jQ ((st85.st.has 46 _ rfl).1.trans (st85.st.has 0 _ rfl).1.symm) (by simp) (.cons (tp rfl) .nil) (zD p73) [6,7,8,10] rfl [2,5,9,45] rfl rfl (by decide) (λ G86 M86 a86 w86 st86=>?_)
        have st87:=st86.gs (Gs':=[q58_0,q58_1,q58_2,H70,G86,q58_5,q58_6,q58_7,G70]) rfl
        refine aHN (st87.hkS (sb:=5) rfl) ?_
        refine aH1 (i:=5) (by decide +kernel) rfl ?_
        refine st87.seg 1 (sc rfl (xIaN rfl kS28 rfl (tp rfl) (λ h=>hA65 h rfl) p76)<|.nil) [6,7,8,10,49] rfl [(0,4),(2,7),(5,8),(9,5),(45,3)] rfl ⟨iI,⟨iI,⟨iI,⟨iI,⟨iI,trivial⟩⟩⟩⟩⟩ (λ a88 w88 st88=>?_)
        refine aHN (st88.hkS (sb:=5) rfl) ?_
        refine aH1 (i:=6) (by decide +kernel) rfl ?_
        refine st88.seg 1 (sc rfl (xLf (sb:=45) (PV.root.row rfl (λ h=>hA65 h rfl) p76) rfl kT94 (tp rfl) rfl)<|.nil) [6,7,8,10,50] rfl [(0,4),(2,7),(5,8),(9,5),(45,3)] rfl ⟨iI,⟨iI,⟨iI,⟨iI,⟨iI,trivial⟩⟩⟩⟩⟩ (λ a89 w89 st89=>?_)
        refine aHN (st89.hkS (sb:=5) rfl) ?_
        refine aH1 (i:=7) (by decide +kernel) rfl ?_
        refine st89.seg 1 (sc rfl (zi (l:=[.tmp 50]) rfl kN149 (.cons (tp rfl) .nil) (qZ p79))<|.nil) [6,7,8,10,51] rfl [(0,4),(2,7),(5,8),(9,5),(45,3)] rfl ⟨iI,⟨iI,⟨iI,⟨iI,⟨iI,trivial⟩⟩⟩⟩⟩ (λ a90 w90 st90=>?_)
        refine aHN (st90.hkS (sb:=5) rfl) ?_
        refine aH1 (i:=8) (by decide +kernel) rfl ?_
        refine st90.seg 1 (sc rfl (oA rfl (tp rfl))<|.nil) [6,7,8,10,11] rfl [(0,4),(2,7),(5,8),(9,5),(45,3)] rfl ⟨iI,⟨iI,⟨iI,⟨iI,⟨iI,trivial⟩⟩⟩⟩⟩ (λ a91 w91 st91=>?_)
        refine aHN (st91.hkS (sb:=5) rfl) ?_
        refine aH0 (by decide +kernel) ?_
        refine st91.stG (s:=45) (sb:=5) 8 3 rfl (by simp) (by simp) (by decide) rfl rfl iI iI [6,7,8,10,11] rfl [0,2,9] rfl rfl rfl (λ G92 st92=>?_)
        have st93:=st92.gs (Gs':=[q58_0,q58_1,q58_2,oneB none,G86,q58_5,q58_6,q58_7,G92]) rfl
        refine za (wp_seq (wp_seq (wp_region_list ?_)))
        obtain⟨v94,p94,h96⟩:=bs h84
        obtain⟨v95,p95,h97⟩:=bs h96
        refine st93.seg 9 (
           sc rfl (oM rfl (tp rfl))<|sc rfl (zi (l:=[.tmp 52]) rfl kN75 (.cons (tp rfl) .nil) (Zi p94))<|sc rfl (yc rfl (tp rfl))<|sc rfl (oM rfl (tp rfl))<|sg rfl rfl (λ hg=>oM rfl (tp rfl))<|sg rfl rfl (λ hg=>zi (l:=[.tmp 56]) rfl kN157 (.cons (zj hg rfl) .nil) (YA (gh hg p95)))<|sg rfl rfl (λ hg=>ZI rfl (zj hg rfl) (zv (by decide)))<|sg rfl rfl (λ hg=>oM rfl (zj hg rfl))<|sgg rfl rfl (λ hg=>oM rfl (zE rfl))<|.nil) [6,7,8,10,11,55,59,60] rfl [(0,4),(2,7),(5,8),(9,5)] rfl ⟨iI,⟨iI,⟨iI,⟨iI,trivial⟩⟩⟩⟩ (λ a98 w98 st98=>?_)
        obtain⟨v100,p100,h101⟩:=bs h97
        refine st98.cSFhB (sb:=0) (l:=[.const (.int .i64 2)]) 4 rfl iI rfl rfl rfl jQ (λ hg=>(st98.st.has 60 _ rfl).1 hg) (by simp) (λ hg=>(.cons cI .nil)) (λ hg=>zD (gh hg p100)) [6,7,8,10,11,55,59] rfl [2,5,9] rfl rfl (by decide) (λ G99 M99 a99 w99 st99=>?_)
        have st102:=st99.gs (Gs':=[q58_0,q58_1,q58_2,oneB none,G99,q58_5,q58_6,q58_7,G92]) rfl
        refine st102.seg 3 (
           sgg rfl rfl (λ hg=>oCI rfl (zj hg rfl) cI)<|sg rfl rfl (λ hg=>zQ rfl (zj hg rfl) (Ww hg rfl))<|sc rfl (xA rfl (tp rfl) (zb rfl))<|.nil) [6,7,8,10,11,64] rfl [(0,4),(2,7),(5,8),(9,5)] rfl ⟨iI,⟨iI,⟨iI,⟨iI,trivial⟩⟩⟩⟩ (λ a103 w103 st103=>?_)
        refine wpList_nil (za ?_)
        refine st103.cs (c:=64) rfl h101 (λ c104 h104=>?_) (λ c105 h105=>?_)
        ·
         refine wp_exit (zm (zC ?_))
         have st106:=st103.unm (s:=5) 8 rfl rfl iI [0,2,9] rfl
         refine za ?_
         obtain rfl:=Option.some.inj h104
         exact⟨_,_,_,_,_,_,_,_,_,_,st106.sel [6,7,8,10] rfl [(0,4),(2,7),(5,8),(9,5)] rfl ⟨iI,⟨iI,⟨iI,⟨iI,trivial⟩⟩⟩⟩⟩
        ·
         refine wp_skip (za (wp_region_list ?_))
         refine st103.nmR (s:=9) 5 rfl rfl iI [0,2,5] rfl (λ g107 A107 c107 hA107 st107=>?_)
         refine st107.seg 3 (
            sc rfl (oM rfl (tp rfl))<|sc rfl (oM rfl (tp rfl))<|sc rfl (ya (opds:=[.const (.int .i64 0),.const (.int .i64 0),.const (.int .i64 2)]) rfl kS25 kY25 rfl rfl (by decide) (.cons cI (.cons cI (.cons cI .nil))))<|.nil) [6,7,8,10,11,67] rfl [(0,4),(2,7),(5,8),(9,5),(65,5),(66,4)] rfl ⟨iI,⟨iI,⟨iI,⟨iI,⟨iI,⟨iI,trivial⟩⟩⟩⟩⟩⟩ (λ a108 w108 st108=>?_)
         obtain⟨v110,p110,h111⟩:=bs h105
         refine st108.cSF (l:=[.tmp 67]) 4 (st108.bkN (s:=0) rfl iI) rfl rfl kN158 ((st108.st.has 66 _ rfl).1.trans (st108.st.has 0 _ rfl).1.symm) (by simp) (.cons (tp rfl) .nil) (yM p110) [6,7,8,10,11] rfl [2,5,9,65] rfl rfl (by decide) (λ G109 M109 a109 w109 st109=>?_)
         have st112:=st109.gs (Gs':=[q58_0,q58_1,q58_2,oneB none,G109,q58_5,q58_6,q58_7,G92]) rfl
         refine st112.seg 3 (
            sc rfl (oM rfl (tp rfl))<|sc rfl (yj (parts:=[(0,.tmp 68),(1,.tmp 69)]) (ns:=[1,1,1,1,1]) (zs:=Ze) rfl rfl Xj Xk (λ w a hl=>by
 intro p hp;simp only[List.mem_cons,List.not_mem_nil,or_false] at hp
 rcases hp with rfl | rfl
 ·
  exact⟨by decide,Rep.len (α:=Int) (OpdR.cells (tp rfl) hl)⟩
 ·
  exact⟨by decide,Rep.len (α:=Str) (OpdR.cells (tp rfl) hl)⟩) (λ w a hl=>Stmt.parts (x:=(⟨v110.2,v79,0,⟨[]⟩,0⟩:Stmt)) (OpdR.cells (tp rfl) hl) (OpdR.cells (tp rfl) hl) ⟨rfl,trivial⟩ yS ⟨rfl,trivial⟩))<|sc rfl (ya (opds:=[.tmp 70]) rfl kS92 kY92 rfl rfl (by decide) (.cons (tp rfl) .nil))<|.nil) [6,7,8,10,71] rfl [(0,4),(2,7),(5,8),(9,5),(65,5)] rfl ⟨iI,⟨iI,⟨iI,⟨iI,⟨iI,trivial⟩⟩⟩⟩⟩ (λ a113 w113 st113=>?_)
         have st115:=st113.unm (s:=65) 5 rfl rfl iI [0,2,5] rfl
         refine st115.tipR (s:=65) 5 rfl rfl (by simp) iI [0,2,5] rfl rfl (λ g116 st116=>?_)
         obtain⟨v118,p118,h119⟩:=bs h111
         refine st116.app 5 rfl rfl kE92 rfl rfl rfl wi p118 [6,7,8,10] rfl [0,2,5] rfl rfl (λ g117 M117 a117 w117 st117=>?_)
         have st120:=st117.gs (Gs':=[q58_0,q58_1,q58_2,oneB none,G109,oneB g117,q58_6,q58_7,G92]) rfl
         refine st120.seg 1 (
            sc rfl (oA rfl (tp rfl))<|.nil) [6,7,8,10] rfl [(0,4),(2,7),(5,8),(9,5)] rfl ⟨iI,⟨iI,⟨iI,⟨iI,trivial⟩⟩⟩⟩ (λ a121 w121 st121=>?_)
         refine wpList_nil (zk ?_)
         have st122:=st121.unm (s:=5) 8 rfl rfl iI [0,2,9] rfl
         have st123:=st122.tipW (s:=9) 5 rfl rfl iI [0,2,5] rfl
         refine za ?_
         obtain rfl:=Option.some.inj h119
         exact⟨_,_,_,_,_,_,_,_,_,_,st123.sel [6,7,8,10] rfl [(0,4),(2,7),(5,8),(9,5)] rfl ⟨iI,⟨iI,⟨iI,⟨iI,trivial⟩⟩⟩⟩⟩
       ·
        rintro a63 w63 ⟨M63,q63_0,q63_1,q63_2,q63_3,q63_4,q63_5,q63_6,q63_7,q63_8,st63⟩
        have h124:=k63
        obtain⟨v125,p125,h126⟩:=bs h124
        refine st63.rg (sc rfl (oM rfl (tp rfl))<|sc rfl (xAr rfl (tp rfl) cI p125)<|sc rfl (oA rfl (tp rfl))<|.nil) [6,7,8,10] rfl [(0,4),(2,7),(5,8),(9,5)] rfl ⟨iI,⟨iI,⟨iI,⟨iI,trivial⟩⟩⟩⟩ (λ a127 w127 st127=>?_)
        refine za ?_
        exact⟨_,(Option.some.inj h126).symm,⟨_,_,_,_,_,_,_,_,_,_,st127.sel [6,7,8,10] rfl [(0,4),(2,7),(5,8),(9,5)] rfl ⟨iI,⟨iI,⟨iI,⟨iI,trivial⟩⟩⟩⟩⟩⟩
      ·
       refine wp_exit (zm (zm (zC ?_)))
       refine za ?_
       have h128:=lo h62 hx58
       obtain rfl:=Option.some.inj h128
       exact⟨_,_,_,_,_,_,_,_,_,_,st60.sel [6,7,8] rfl [(0,4),(2,7),(5,8),(9,5)] rfl ⟨iI,⟨iI,⟨iI,⟨iI,trivial⟩⟩⟩⟩⟩
     ·
      rintro a49 w49 ⟨M49,q49_0,q49_1,q49_2,q49_3,q49_4,q49_5,q49_6,q49_7,q49_8,st49⟩
      have h129:=k49
      have st130:=st49.frzW (s:=9) 5 rfl (by simp) iI [6,7,8] rfl [0,2,5] rfl rfl
      refine wp_region_list ?_
      obtain⟨v133,p133,h134⟩:=bs h129
      refine st130.nmB (s:=5) 8 rfl rfl iI [0,2] rfl (λ b131 st131=>?_)
      refine st131.hdR (s:=5) 8 true (λ _=>((PV.root.box rfl).fld owTree.f0)) rfl rfl iI [0,2] rfl (λ g132 A132 c132 hA132 st132=>?_)
      refine st132.seg 6 (
        sc rfl (xFa rfl wz (zE rfl))<|sc rfl (xLc (sb:=5) (.head _) rfl rfl rfl kT28 (tp rfl) rfl)<|sc rfl (oM rfl (tp rfl))<|sc rfl (oM rfl (tp rfl))<|sc rfl (xIa (g:=g132) rfl kS28 (tp rfl) (tp rfl) rfl (λ h=>hA132 h rfl) p133)<|sc rfl (xFa rfl Yb (tp rfl))<|.nil) [6,7,8,76,78] rfl [(0,4),(2,7),(5,8)] rfl ⟨iI,⟨iI,⟨iI,trivial⟩⟩⟩ (λ a135 w135 st135=>?_)
      refine st135.stF (sb:=5) 8 ((((PV.root.box rfl).fld owTree.f0).row (.head _) rfl (λ h=>hA132 h rfl) p133).fld File.z5) rfl rfl rfl kT92 (by simp) (tp rfl) (tp rfl) rfl rfl iI [6,7,8] rfl [0,2] rfl rfl (λ w136 st136=>?_)
      refine wpList_nil (zk ?_)
      have st137:=st136.unm (s:=5) 8 rfl rfl iI [0,2] rfl
      refine za ?_
      obtain rfl:=Option.some.inj h134
      exact⟨_,_,_,_,_,_,_,_,_,_,st137.sel [6,7,8] rfl [(0,4),(2,7),(5,8)] rfl ⟨iI,⟨iI,⟨iI,trivial⟩⟩⟩⟩
    ·
     rintro a43 w43 ⟨M43,q43_0,q43_1,q43_2,q43_3,q43_4,q43_5,q43_6,q43_7,q43_8,st43⟩
     have h138:=k43
     obtain⟨v139,p139,h140⟩:=bs h138
     refine st43.rg (sc rfl (oM rfl (tp rfl))<|sc rfl (xAr rfl (tp rfl) cI p139)<|sc rfl (oA rfl (tp rfl))<|.nil) [6,7,8] rfl [(0,4),(2,7),(5,8)] rfl ⟨iI,⟨iI,⟨iI,trivial⟩⟩⟩ (λ a141 w141 st141=>?_)
     refine za ?_
     exact⟨_,(Option.some.inj h140).symm,⟨_,_,_,_,_,_,_,_,_,_,st141.sel [6,7,8] rfl [(0,4),(2,7),(5,8)] rfl ⟨iI,⟨iI,⟨iI,trivial⟩⟩⟩⟩⟩
   ·
    refine wp_exit (zm (zm (zC ?_)))
    have st142:=st40.unm (s:=5) 8 rfl rfl iI [0,2] rfl
    refine za ?_
    have h143:=lo h42 hx35
    obtain rfl:=Option.some.inj h143
    exact⟨_,_,_,_,_,_,_,_,_,_,st142.sel [6,7] rfl [(0,4),(2,7),(5,8)] rfl ⟨iI,⟨iI,⟨iI,trivial⟩⟩⟩⟩
  ·
   rintro a31 w31 ⟨M31,q31_0,q31_1,q31_2,q31_3,q31_4,q31_5,q31_6,q31_7,q31_8,st31⟩
   have h144:=k31
   refine wp_seq (wp_region_list ?_)
   refine st31.nmB (s:=5) 8 rfl rfl iI [0,2] rfl (λ b146 st146=>?_)
   refine st146.ldW (sb:=5) 8 rfl rfl kT30 rfl (by simp) iI [6,7] rfl [0,2] rfl rfl (λ a145 w145 st145=>?_)
   refine st145.seg 2 (
    sc rfl (oM rfl (tp rfl))<|sc rfl (oM rfl (tp rfl))<|.nil) [80,81] rfl [(0,4),(2,7),(79,8)] rfl ⟨iI,⟨iI,⟨iI,trivial⟩⟩⟩ (λ a147 w147 st147=>?_)
   refine st147.nmB (s:=2) 7 rfl rfl iI [0,79] rfl (λ b149 st149=>?_)
   refine st149.stO (sb:=2) (tv:=79) 7 8 (PV.root.box rfl) rfl rfl rfl kT30 (by simp) (by simp) (by decide) (zE rfl) rfl rfl rfl iI iI [80,81] rfl [0] rfl rfl rfl (λ G148 w148 st148=>?_)
   have st150:=st148.gs (Gs':=[q31_0,q31_1,q31_2,q31_3,q31_4,q31_5,q31_6,G148,oneB none]) rfl
   refine st150.seg 2 (
    sc rfl (oA rfl (tp rfl))<|sc rfl (oA rfl (tp rfl))<|.nil) [3,4] rfl [(0,4),(2,7)] rfl ⟨iI,⟨iI,trivial⟩⟩ (λ a151 w151 st151=>?_)
   refine wpList_nil (za (wp_ret ?_))
   obtain rfl:=Option.some.inj h144
   exact st151.rs3O (s:=0) 4 7 rfl kT30 rfl rfl rfl rfl ⟨rfl,rfl⟩ iI iI (by decide) ⟨rfl,rfl⟩
open Go.RowKit
set_option maxRecDepth 10000
set_option maxHeartbeats 1600000
theorem kN81:fnB Tryz.prog 81=true:=by kernel_rfl
theorem kN90:fnB Tryz.prog 90=true:=by kernel_rfl
theorem kN33:fnB Tryz.prog 33=true:=by kernel_rfl
theorem kN34:fnB Tryz.prog 34=true:=by kernel_rfl
theorem kN35:fnB Tryz.prog 35=true:=by kernel_rfl
theorem kN24:fnB Tryz.prog 24=true:=by kernel_rfl
theorem kN38:fnB Tryz.prog 38=true:=by kernel_rfl
theorem kN31:fnB Tryz.prog 31=true:=by kernel_rfl
def wH(x0:List UInt8):Option (Tree×(List Int)×Str):=
(ju x0).bind λ v6=>
(j9 v6).bind λ v9=>
some (v9.2.1,v9.2.2.1,v9.2.2.2)
theorem WG{x0:List UInt8}{r:Tree×(List Int)×Str}(h:wH x0=some r):Fn Tryz.prog 33 [dt x0] (dtup [dt r.1,dt r.2.1,dt r.2.2]):=by
 unfold wH at h
 refine fnx (fn:=Tryz.f33) 2 Tryz.func33 rfl (of_decide_eq_true rfl) rfl (λ M w0 a0 st0=>?_)
 refine wp_seq (wp_region_list ?_)
 refine st0.alloc 1 rfl rfl kZ30 zrTree (by simp) [0] rfl [] rfl rfl (λ b2 M2 a2 w2 st2=>?_)
 refine st2.seg 2 (
  sc rfl (oA rfl (wO (α:=Int)))<|sc rfl (oA rfl (zv (by decide)))<|.nil) [0] rfl [(2,1)] rfl ⟨iI,trivial⟩ (λ a3 w3 st3=>?_)
 refine wpList_nil (za (wp_seq (wp_region_list ?_)))
 refine st3.seg 1 (
  sc rfl (oM rfl (tp rfl))<|.nil) [5] rfl [(2,1)] rfl ⟨iI,trivial⟩ (λ a4 w4 st4=>?_)
 obtain⟨v6,p6,h7⟩:=bs h
 refine st4.cN (l:=[.tmp 5]) 0 rfl rfl kN81 (.cons (tp rfl) .nil) (JR p6) (by simp) [] rfl [2] rfl rfl (λ G5 M5 a5 w5 st5=>?_)
 obtain⟨v9,p9,h10⟩:=bs h7
 refine st5.cSF (l:=[]) 0 (st5.bkR (s:=6) rfl iI) rfl rfl kN90 rfl (by simp) .nil ((FnS.frz3 (QI p9))) [] rfl [2] rfl rfl (by decide) (λ G8 M8 a8 w8 st8=>?_)
 refine st8.seg 3 (
  sc rfl (xExt (i:=0) rfl (tp rfl) rfl)<|sc rfl (xExt (i:=1) rfl (tp rfl) rfl)<|sc rfl (xExt (i:=2) rfl (tp rfl) rfl)<|.nil) [8,9,10] rfl [(2,1)] rfl ⟨iI,trivial⟩ (λ a11 w11 st11=>?_)
 refine st11.store (sb:=2) 1 FldS.id rfl rfl rfl kT30 rfl rfl (tp rfl) rfl [9,10] rfl [] rfl rfl (λ M13 w13 st13=>?_)
 refine st13.seg 2 (
  sc rfl (oA rfl (tp rfl))<|sc rfl (oA rfl (tp rfl))<|.nil) [3,4] rfl [(2,1)] rfl ⟨iI,trivial⟩ (λ a14 w14 st14=>?_)
 refine wpList_nil (za (wp_ret ?_))
 obtain rfl:=Option.some.inj h10
 exact st14.ret3c rfl kT30 rfl (st14.frozen (t:=3) rfl) (st14.frozen (t:=4) rfl) ⟨rfl,rfl⟩ rfl
def xy(v6:Tree×(List Int)×Str)(v14:List Str)(s37:Int)(s46:Bool×Int):Option ((Bool×Int)⊕Bool):=
if(cmpI .lss s46.2 (v14.length:Int))=true then((gO (s46.1 == false) (atI v14 s46.2)).bind λ v51=>
(gO (s46.1 == false) (xV v6.1 v6.2.1 v51)).bind λ v52=>
(gO (s46.1 == false) (atI v14 s37)).bind λ v53=>
(gO (s46.1 == false) (wG v52 v53)).bind λ v54=>
(i64 (s46.2+(1:Int))).bind λ v60=>
some (.inl ((s46.1||v54),v60)))
else(some (.inr s46.1))
def yL(v6:Tree×(List Int)×Str)(v14:List Str)(s37:Int):Option (Int⊕(Unit⊕Bool)):=
if(cmpI .lss s37 (v14.length:Int))=true then(Option.bind (α:=Unit⊕(Int⊕(Unit⊕Bool))) (Option.bind (α:=Bool) (zL (λ s46=>xy v6 v14 s37 s46) (false,(0:Int))) λ o44=>
(gO ((!o44) == false) (atI v14 s37)).bind λ v65=>
(gO ((!o44) == false) (j0 v6.1 v6.2.1 v65)).bind λ v66=>
if((!o44)||(!v66))=true then(some (.inr (.inr (.inr false))))
else(some (.inl ()))) (Sum.elim (λ _b42=>
(i64 (s37+(1:Int))).bind λ v77=>
some (.inl v77)) some))
else(some (.inr (.inl ())))
def qh(x0:List UInt8):Option Bool:=
if(cmpI .gtr (x0.length:Int) (1048576:Int))=true then(some true)
else((wH x0).bind λ v6=>
(j5 v6.1 v6.2.1 v6.2.2).bind λ v14=>
(jt v6.1 v6.2.1 v6.2.2).bind λ v17=>
(yN v14 v17).bind λ v18=>
(gO ((!v18) == false) (xI v6.1)).bind λ v19=>
(gO (((!v18)||(!v19)) == false) (xJ v6.2.1)).bind λ v20=>
(gO ((((!v18)||(!v19))||(!v20)) == false) (zP v6.2.2)).bind λ v21=>
if((((!v18)||(!v19))||(!v20))||(!v21))=true then((jt v6.1 v6.2.1 v6.2.2).bind λ v30=>
(yN v14 v30).bind λ v31=>
some v31)
else(Option.bind (α:=Unit⊕Bool) (zL (λ s37=>yL v6 v14 s37) (0:Int)) (Sum.elim (λ _b35=>
(jz v14).bind λ v82=>
(gO (v82 == true) (wF v6.1 v6.2.1 v6.2.2)).bind λ v83=>
(gO (v82 == true) (yE v14 v83)).bind λ v84=>
some (v82&&v84)) some)))
theorem JS{x0:List UInt8}{r:Bool}(h:qh x0=some r):Fn Tryz.prog 5 [dt x0] (dt r):=by
 unfold qh at h
 refine fnx (fn:=Tryz.f5) 1 Tryz.func5 rfl (of_decide_eq_true rfl) rfl (λ M w0 a0 st0=>?_)
 refine st0.sq0 (sc rfl (oA rfl cB)<|.nil) [0] rfl (λ a1 w1 st1=>?_)
 refine wp_seq ?_
 refine st1.sq0 (sc rfl (oM rfl (tp rfl))<|sc rfl (zK rfl kL36 (tp rfl))<|sc rfl (oCI rfl (tp rfl) cI)<|.nil) [0,12] rfl (λ a2 w2 st2=>?_)
 refine st2.cs (c:=12) rfl h (λ c3 h3=>?_) (λ c4 h4=>?_)
 ·
  refine st2.sq0 (sc rfl (oA rfl cB)<|.nil) [2] rfl (λ a5 w5 st5=>?_)
  refine wp_ret (zh ?_)
  exact st5.ret rfl rfl h3
 ·
  refine wp_skip (za (wp_seq (wp_region_list ?_)))
  obtain⟨v6,p6,h7⟩:=bs h4
  refine st2.seg 6 (
   sc rfl (oM rfl (tp rfl))<|sc rfl (zi (l:=[.tmp 14]) rfl kN33 (.cons (tp rfl) .nil) (WG p6))<|sc rfl (oM rfl (tp rfl))<|sc rfl (xExt (i:=0) rfl (tp rfl) rfl)<|sc rfl (xExt (i:=1) rfl (tp rfl) rfl)<|sc rfl (xExt (i:=2) rfl (tp rfl) rfl)<|.nil) [16,17,18] rfl [] rfl trivial (λ a8 w8 st8=>?_)
  refine st8.alloc 0 rfl rfl kZ30 zrTree (by simp) [16,17,18] rfl [] rfl rfl (λ b10 M10 a10 w10 st10=>?_)
  refine st10.store (sb:=3) 0 FldS.id rfl rfl rfl kT30 rfl rfl (tp rfl) rfl [17,18] rfl [] rfl rfl (λ M12 w12 st12=>?_)
  refine st12.seg 2 (
   sc rfl (oA rfl (tp rfl))<|sc rfl (oA rfl (tp rfl))<|.nil) [4,5] rfl [(3,0)] rfl ⟨iI,trivial⟩ (λ a13 w13 st13=>?_)
  refine wpList_nil (za ?_)
  obtain⟨v14,p14,h15⟩:=bs h7
  refine st13.sq (sc rfl (zH rfl kT30 (tp rfl))<|sc rfl (oM rfl (tp rfl))<|sc rfl (oM rfl (tp rfl))<|sc rfl (zi (l:=[.tmp 19,.tmp 20,.tmp 21]) rfl kN34 (.cons (tp rfl) (.cons (tp rfl) (.cons (tp rfl) .nil))) ((QD p14)).fn)<|sc rfl (oA rfl (tp rfl))<|.nil) [4,5,6] rfl [(3,0)] rfl ⟨iI,trivial⟩ (λ a16 w16 st16=>?_)
  refine wp_seq ?_
  obtain⟨v17,p17,h22⟩:=bs h15
  obtain⟨v18,p18,h23⟩:=bs h22
  obtain⟨v19,p19,h24⟩:=bs h23
  obtain⟨v20,p20,h25⟩:=bs h24
  obtain⟨v21,p21,h26⟩:=bs h25
  refine st16.sq (sc rfl (oM rfl (tp rfl))<|sc rfl (zH rfl kT30 (tp rfl))<|sc rfl (oM rfl (tp rfl))<|sc rfl (oM rfl (tp rfl))<|sc rfl (zi (l:=[.tmp 24,.tmp 25,.tmp 26]) rfl kN35 (.cons (tp rfl) (.cons (tp rfl) (.cons (tp rfl) .nil))) ((XI p17)).fn)<|sc rfl (zi (l:=[.tmp 23,.tmp 27]) rfl kN24 (.cons (tp rfl) (.cons (tp rfl) .nil)) (Ys p18))<|sc rfl (yc rfl (tp rfl))<|sc rfl (oM rfl (tp rfl))<|sg rfl rfl (λ hg=>zH rfl kT30 (tp rfl))<|sg rfl rfl (λ hg=>zi (l:=[.tmp 31]) rfl kN26 (.cons (zj hg rfl) .nil) (Zg (gh hg p19)))<|sg rfl rfl (λ hg=>yc rfl (zj hg rfl))<|sc rfl (xA rfl (tp rfl) (zb rfl))<|sc rfl (oM rfl (tp rfl))<|sg rfl rfl (λ hg=>oM rfl (tp rfl))<|sg rfl rfl (λ hg=>zi (l:=[.tmp 36]) rfl kN27 (.cons (zj hg rfl) .nil) (Zh (gh hg p20)))<|sg rfl rfl (λ hg=>yc rfl (zj hg rfl))<|sc rfl (xA rfl (tp rfl) (zb rfl))<|sc rfl (oM rfl (tp rfl))<|sg rfl rfl (λ hg=>oM rfl (tp rfl))<|sg rfl rfl (λ hg=>zi (l:=[.tmp 41]) rfl kN28 (.cons (zj hg rfl) .nil) (yk (gh hg p21)))<|sg rfl rfl (λ hg=>yc rfl (zj hg rfl))<|sc rfl (xA rfl (tp rfl) (zb rfl))<|.nil) [4,5,6,44] rfl [(3,0)] rfl ⟨iI,trivial⟩ (λ a27 w27 st27=>?_)
  refine st27.cs (c:=44) rfl h26 (λ c28 h28=>?_) (λ c29 h29=>?_)
  ·
   obtain⟨v30,p30,h32⟩:=bs h28
   obtain⟨v31,p31,h33⟩:=bs h32
   refine st27.sq0 (sc rfl (oM rfl (tp rfl))<|sc rfl (zH rfl kT30 (tp rfl))<|sc rfl (oM rfl (tp rfl))<|sc rfl (oM rfl (tp rfl))<|sc rfl (zi (l:=[.tmp 46,.tmp 47,.tmp 48]) rfl kN35 (.cons (tp rfl) (.cons (tp rfl) (.cons (tp rfl) .nil))) ((XI p30)).fn)<|sc rfl (zi (l:=[.tmp 45,.tmp 49]) rfl kN24 (.cons (tp rfl) (.cons (tp rfl) .nil)) (Ys p31))<|sc rfl (oA rfl (tp rfl))<|.nil) [2] rfl (λ a34 w34 st34=>?_)
   refine wp_ret (zh ?_)
   exact st34.ret rfl rfl h33
  ·
   refine wp_skip (za ?_)
   obtain⟨o35,p35,k35⟩:=bs h29
   refine zo (λ a w=>∃ b35,o35=.inl b35/\(∃ M1 q35_0,Sx (Frm.of w0) 100 M M1 [oneB q35_0] [(4,dt v6.2.1),(5,dt v6.2.2),(6,dt v14)] [(3,0,dbox q35_0 0 v6.1)] a w)) ?_ ?_
   ·
    refine st27.sq (sc rfl (oA rfl cI)<|.nil) [4,5,6,7] rfl [(3,0)] rfl ⟨iI,trivial⟩ (λ a36 w36 st36=>?_)
    refine wp_block ?_
    refine zI p35 (λ s37 a w=>∃ M1 q37_0,Sx (Frm.of w0) 100 M M1 [oneB q37_0] [(4,dt v6.2.1),(5,dt v6.2.2),(6,dt v14),(7,dt s37)] [(3,0,dbox q37_0 0 v6.1)] a w) ⟨_,_,st36.sel [4,5,6,7] rfl [(3,0)] rfl ⟨iI,trivial⟩⟩ ?_
    rintro s37 z37 a37 w37 ⟨M37,q37_0,st37⟩ hs37 hx37
    have h38:yL v6 v14 s37=some z37:=hs37
    unfold yL at h38
    refine wp_seq ?_
    refine st37.sq (sc rfl (oM rfl (tp rfl))<|sc rfl (oM rfl (tp rfl))<|sc rfl (zK rfl kL39 (tp rfl))<|sc rfl (oCI rfl (tp rfl) (tp rfl))<|.nil) [4,5,6,7,54] rfl [(3,0)] rfl ⟨iI,trivial⟩ (λ a39 w39 st39=>?_)
    refine st39.cs (c:=54) rfl h38 (λ c40 h40=>?_) (λ c41 h41=>?_)
    ·
     refine wp_skip (za ?_)
     obtain⟨o42,p42,k42⟩:=bs h40
     refine zo (λ a w=>∃ b42,o42=.inl b42/\(∃ M1 q42_0,Sx (Frm.of w0) 100 M M1 [oneB q42_0] [(4,dt v6.2.1),(5,dt v6.2.2),(6,dt v14),(7,dt s37)] [(3,0,dbox q42_0 0 v6.1)] a w)) ?_ ?_
     ·
      refine wp_block ?_
      refine st39.sq (sc rfl (oA rfl cB)<|.nil) [4,5,6,7,8] rfl [(3,0)] rfl ⟨iI,trivial⟩ (λ a43 w43 st43=>?_)
      obtain⟨o44,p44,k44⟩:=bs p42
      refine zo (λ a w=>∃ M1 q44_0,Sx (Frm.of w0) 100 M M1 [oneB q44_0] [(4,dt v6.2.1),(5,dt v6.2.2),(6,dt v14),(7,dt s37),(8,dt o44)] [(3,0,dbox q44_0 0 v6.1)] a w) ?_ ?_
      ·
       refine st43.sq (sc rfl (oA rfl cI)<|.nil) [4,5,6,7,8,9] rfl [(3,0)] rfl ⟨iI,trivial⟩ (λ a45 w45 st45=>?_)
       refine wp_block ?_
       refine zI p44 (λ s46 a w=>∃ M1 q46_0,Sx (Frm.of w0) 100 M M1 [oneB q46_0] [(4,dt v6.2.1),(5,dt v6.2.2),(6,dt v14),(7,dt s37),(8,dt s46.1),(9,dt s46.2)] [(3,0,dbox q46_0 0 v6.1)] a w) ⟨_,_,st45.sel [4,5,6,7,8,9] rfl [(3,0)] rfl ⟨iI,trivial⟩⟩ ?_
       rintro s46 z46 a46 w46 ⟨M46,q46_0,st46⟩ hs46 hx46
       have h47:xy v6 v14 s37 s46=some z46:=hs46
       unfold xy at h47
       refine wp_seq ?_
       refine st46.sq (sc rfl (oM rfl (tp rfl))<|sc rfl (oM rfl (tp rfl))<|sc rfl (zK rfl kL39 (tp rfl))<|sc rfl (oCI rfl (tp rfl) (tp rfl))<|.nil) [4,5,6,7,8,9,60] rfl [(3,0)] rfl ⟨iI,trivial⟩ (λ a48 w48 st48=>?_)
       refine st48.cs (c:=60) rfl h47 (λ c49 h49=>?_) (λ c50 h50=>?_)
       ·
        refine wp_skip (za (wp_seq (wp_block ?_)))
        obtain⟨v51,p51,h55⟩:=bs h49
        obtain⟨v52,p52,h56⟩:=bs h55
        obtain⟨v53,p53,h57⟩:=bs h56
        obtain⟨v54,p54,h58⟩:=bs h57
        refine st48.dr (D:=[_,_,_,_,_,_,_,_,_,_,_,_,_,_,_,_]) zR [[],[0],[0,1],[0,1],[0,1],[0,1],[0,1,4,5],[0,1,4,5,6],[0,1,2,3,4,5,6,7],[0,1],[0,1],[0,1,9,10],[0,1,9,10,11],[0,1,2,3,4,5,6,7,8,9,10,11,12],[0,1,2,3,4,5,6,7,8,9,10,11,12,13],[0,1,2,3,4,5,6,7,8,9,10,11,12,13,14]] [[(8,none)],[(63,some 0)],[(3,none),(64,some 1)],[(4,none),(64,some 1)],[(6,none),(64,some 1)],[(9,none),(64,some 1)],[(67,some 4),(68,some 5),(64,some 1)],[(69,some 6),(64,some 1)],[(65,some 2),(66,some 3),(70,some 7),(64,some 1)],[(6,none),(64,some 1)],[(7,none),(64,some 1)],[(72,some 9),(73,some 10),(64,some 1)],[(74,some 11),(64,some 1)],[(71,some 8),(75,some 12),(64,some 1)],[(64,some 1),(76,some 13)],[(77,some 14)]] (by decide +kernel) (
         rc rfl rfl (oM rfl (tp rfl))<|rc rfl rfl (oM rfl (tp rfl))<|rg rfl rfl rfl (λ hg=>zH rfl kT30 (tp rfl))<|rg rfl rfl rfl (λ hg=>oM rfl (tp rfl))<|rg rfl rfl rfl (λ hg=>oM rfl (tp rfl))<|rg rfl rfl rfl (λ hg=>oM rfl (tp rfl))<|rg rfl rfl rfl (λ hg=>xIdx rfl kS39 (zj hg rfl) (zj hg rfl) (gh hg p51))<|rg rfl rfl rfl (λ hg=>zf rfl kT9 (zj hg rfl))<|rg rfl rfl rfl (λ hg=>zi (l:=[.tmp 65,.tmp 66,.tmp 70]) rfl kN36 (.cons (zj hg rfl) (.cons (zj hg rfl) (.cons (zj hg rfl) .nil))) (Yg (gh hg p52)))<|rg rfl rfl rfl (λ hg=>oM rfl (tp rfl))<|rg rfl rfl rfl (λ hg=>oM rfl (tp rfl))<|rg rfl rfl rfl (λ hg=>xIdx rfl kS39 (zj hg rfl) (zj hg rfl) (gh hg p53))<|rg rfl rfl rfl (λ hg=>zf rfl kT9 (zj hg rfl))<|rg rfl rfl rfl (λ hg=>zi (l:=[.tmp 71,.tmp 75]) rfl kN32 (.cons (zj hg rfl) (.cons (zj hg rfl) .nil)) (XJ (gh hg p54)))<|rc rfl rfl (xA rfl (tp rfl) (zb rfl))<|rc rfl rfl (oA rfl (tp rfl))<|.nil) [4,5,6,7,8,9] rfl [(3,0)] rfl ⟨iI,trivial⟩ (λ a59 w59 st59=>?_)
        refine zk (za ?_)
        obtain⟨v60,p60,h61⟩:=bs h58
        refine st59.rg (sc rfl (oM rfl (tp rfl))<|sc rfl (xAr rfl (tp rfl) cI p60)<|sc rfl (oA rfl (tp rfl))<|.nil) [4,5,6,7,8,9] rfl [(3,0)] rfl ⟨iI,trivial⟩ (λ a62 w62 st62=>?_)
        refine za ?_
        exact⟨_,(Option.some.inj h61).symm,⟨_,_,st62.sel [4,5,6,7,8,9] rfl [(3,0)] rfl ⟨iI,trivial⟩⟩⟩
       ·
        refine wp_exit (zm (zm (zC ?_)))
        refine za ?_
        have h63:=lo h50 hx46
        obtain rfl:=Option.some.inj h63
        exact⟨_,_,st48.sel [4,5,6,7,8] rfl [(3,0)] rfl ⟨iI,trivial⟩⟩
      ·
       rintro a44 w44 ⟨M44,q44_0,st44⟩
       have h64:=k44
       refine wp_seq ?_
       obtain⟨v65,p65,h67⟩:=bs h64
       obtain⟨v66,p66,h68⟩:=bs h67
       refine st44.dr (D:=[_,_,_,_,_,_,_,_,_,_,_,_]) zR [[],[0],[0,1],[0,1,2],[0,1,2],[0,1,2],[0,1,2],[0,1,2,5,6],[0,1,2,5,6,7],[0,1,2,3,4,5,6,7,8],[0,1,2,3,4,5,6,7,8,9],[0,1,2,3,4,5,6,7,8,9,10]] [[(8,none)],[(78,some 0)],[(79,some 1)],[(3,none),(80,some 2)],[(4,none),(80,some 2)],[(6,none),(80,some 2)],[(7,none),(80,some 2)],[(83,some 5),(84,some 6),(80,some 2)],[(85,some 7),(80,some 2)],[(81,some 3),(82,some 4),(86,some 8),(80,some 2)],[(87,some 9),(80,some 2)],[(80,some 2),(88,some 10)]] (by decide +kernel) (
        rc rfl rfl (oM rfl (tp rfl))<|rc rfl rfl (yc rfl (tp rfl))<|rc rfl rfl (oM rfl (tp rfl))<|rg rfl rfl rfl (λ hg=>zH rfl kT30 (tp rfl))<|rg rfl rfl rfl (λ hg=>oM rfl (tp rfl))<|rg rfl rfl rfl (λ hg=>oM rfl (tp rfl))<|rg rfl rfl rfl (λ hg=>oM rfl (tp rfl))<|rg rfl rfl rfl (λ hg=>xIdx rfl kS39 (zj hg rfl) (zj hg rfl) (gh hg p65))<|rg rfl rfl rfl (λ hg=>zf rfl kT9 (zj hg rfl))<|rg rfl rfl rfl (λ hg=>zi (l:=[.tmp 81,.tmp 82,.tmp 86]) rfl kN37 (.cons (zj hg rfl) (.cons (zj hg rfl) (.cons (zj hg rfl) .nil))) (Qy (gh hg p66)))<|rg rfl rfl rfl (λ hg=>yc rfl (zj hg rfl))<|rc rfl rfl (xA rfl (tp rfl) (zb rfl))<|.nil) [4,5,6,7,89] rfl [(3,0)] rfl ⟨iI,trivial⟩ (λ a69 w69 st69=>?_)
       refine za ?_
       refine st69.cs (c:=89) rfl h68 (λ c70 h70=>?_) (λ c71 h71=>?_)
       ·
        refine st69.sq0 (sc rfl (oA rfl cB)<|.nil) [2] rfl (λ a72 w72 st72=>?_)
        refine wp_ret (zy (zh (zh (zy (zh ?_)))))
        have h73:=jo h70 k42
        have h74:=lo h73 hx37
        have h75:=jo h74 k35
        exact st72.ret rfl rfl h75
       ·
        refine wp_skip (zk (za ?_))
        exact⟨_,(Option.some.inj h71).symm,⟨_,_,st69.sel [4,5,6,7] rfl [(3,0)] rfl ⟨iI,trivial⟩⟩⟩
     ·
      rintro a42 w42 ⟨b42,rfl,⟨M42,q42_0,st42⟩⟩
      have h76:=jn k42
      obtain⟨v77,p77,h78⟩:=bs h76
      refine st42.rg (sc rfl (oM rfl (tp rfl))<|sc rfl (xAr rfl (tp rfl) cI p77)<|sc rfl (oA rfl (tp rfl))<|.nil) [4,5,6,7] rfl [(3,0)] rfl ⟨iI,trivial⟩ (λ a79 w79 st79=>?_)
      refine za ?_
      exact⟨_,(Option.some.inj h78).symm,⟨_,_,st79.sel [4,5,6,7] rfl [(3,0)] rfl ⟨iI,trivial⟩⟩⟩
    ·
     refine wp_exit (zm (zm (zC ?_)))
     refine za ?_
     have h80:=lo h41 hx37
     exact⟨_,(Option.some.inj h80).symm,⟨_,_,st39.sel [4,5,6] rfl [(3,0)] rfl ⟨iI,trivial⟩⟩⟩
   ·
    rintro a35 w35 ⟨b35,rfl,⟨M35,q35_0,st35⟩⟩
    have h81:=jn k35
    obtain⟨v82,p82,h85⟩:=bs h81
    obtain⟨v83,p83,h86⟩:=bs h85
    obtain⟨v84,p84,h87⟩:=bs h86
    refine st35.sq0 (sc rfl (oM rfl (tp rfl))<|sc rfl (zi (l:=[.tmp 90]) rfl kN38 (.cons (tp rfl) .nil) (laws_rises_w p82))<|sc rfl (oM rfl (tp rfl))<|sg rfl rfl (λ hg=>oM rfl (tp rfl))<|sg rfl rfl (λ hg=>zH rfl kT30 (tp rfl))<|sg rfl rfl (λ hg=>oM rfl (tp rfl))<|sg rfl rfl (λ hg=>oM rfl (tp rfl))<|sg rfl rfl (λ hg=>zi (l:=[.tmp 94,.tmp 95,.tmp 96]) rfl kN39 (.cons (zj hg rfl) (.cons (zj hg rfl) (.cons (zj hg rfl) .nil))) ((XH (gh hg p83))).fn)<|sg rfl rfl (λ hg=>zi (l:=[.tmp 93,.tmp 97]) rfl kN31 (.cons (zj hg rfl) (.cons (zj hg rfl) .nil)) (WF (gh hg p84)))<|sc rfl (zQ rfl (tp rfl) (zb rfl))<|sc rfl (oA rfl (tp rfl))<|.nil) [2] rfl (λ a88 w88 st88=>?_)
    refine wp_ret ?_
    exact st88.ret rfl rfl h87
end Go.Proofs.YtiiiokblnnlapaaGreatDoor
