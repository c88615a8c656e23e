/-
  Models of functions, and their walks: printed by a program of our own (wip/mxo.py).
-/
import Derived.Test.YtionokffhhiicaaGreatDoorHH
import Derived.Test.YtionokffhhiicaaGreatDoorHG
namespace Go.Proofs.YtionokffhhiicaaGreatDoor
open Go.RowKit
set_option maxRecDepth 10000
set_option maxHeartbeats 1600000

theorem kN66 : fnB Tryz.prog 66 = true := by kernel_rfl
theorem kN78 : fnB Tryz.prog 78 = true := by kernel_rfl
theorem kN79 : fnB Tryz.prog 79 = true := by kernel_rfl
theorem kN80 : fnB Tryz.prog 80 = true := by kernel_rfl
theorem kN26 : fnB Tryz.prog 26 = true := by kernel_rfl
theorem kN27 : fnB Tryz.prog 27 = true := by kernel_rfl
theorem kN28 : fnB Tryz.prog 28 = true := by kernel_rfl
theorem kN21 : fnB Tryz.prog 21 = true := by kernel_rfl
theorem kN34 : fnB Tryz.prog 34 = true := by kernel_rfl
theorem kN36 : fnB Tryz.prog 36 = true := by kernel_rfl

def m_spec_DrawKidsOf (x0 : List UInt8) : Option (Tree × (List Int) × Str) :=
(m_spec_newReader x0).bind fun v6 =>
(m_spec_anyTree v6).bind fun v12 =>
(m_spec_anyPath v12.1).bind fun v16 =>
(m_spec_anyPackage v16.1).bind fun v20 =>
some (v12.2, v16.2, v20.2)

theorem spec_DrawKidsOf_w {x0 : List UInt8} {r : Tree × (List Int) × Str} (h : m_spec_DrawKidsOf x0 = some r) : Fn Tryz.prog 26 [dt x0] (dtup [dt r.1, dt r.2.1, dt r.2.2]) := by
  unfold m_spec_DrawKidsOf at h
  refine fnx (fn := Tryz.f26) 2 Tryz.func26 rfl (of_decide_eq_true rfl) rfl (fun M w0 a0 st0 => ?_)
  refine wp_seq ?_
  refine wp_region_list ?_
  refine st0.alloc 1 rfl rfl kZ30 zrTree (by simp) [0] rfl [] rfl rfl (fun b2 M2 a2 w2 st2 => ?_)
  refine st2.seg 2 (
    sc rfl (oA rfl (opd_nil (α := Int))) <|
    sc rfl (oA rfl (opd_str (by decide))) <| .nil) [0] rfl [(2, 1)] rfl ⟨fun _ h => h, trivial⟩ (fun a3 w3 st3 => ?_)
  refine wpList_nil ?_
  refine then_normal ?_
  refine wp_seq ?_
  refine wp_region_list ?_
  refine st3.seg 1 (
    sc rfl (oM rfl (tp rfl)) <| .nil) [6] rfl [(2, 1)] rfl ⟨fun _ h => h, trivial⟩ (fun a4 w4 st4 => ?_)
  obtain ⟨v6, p6, h7⟩ := bs h
  refine st4.cN (l := [.tmp 6]) 0 rfl rfl kN66 (.cons (tp rfl) .nil) (spec_newReader_w p6) (by simp) [] rfl [2] rfl rfl (fun G5 M5 a5 w5 st5 => ?_)
  refine st5.nmB (s := 7) 0 rfl rfl (fun _ h => h) [2] rfl (fun b8 st8 => ?_)
  refine st8.seg 1 (
    sc rfl (oA rfl (tp rfl)) <| .nil) [] rfl [(2, 1), (5, 0)] rfl ⟨fun _ h => h, ⟨fun _ h => h, trivial⟩⟩ (fun a9 w9 st9 => ?_)
  refine wpList_nil ?_
  refine then_normal ?_
  refine wp_seq ?_
  refine wp_region_list ?_
  refine st9.seg 1 (
    sc rfl (oM rfl (tp rfl)) <| .nil) [] rfl [(2, 1), (5, 0), (8, 0)] rfl ⟨fun _ h => h, ⟨fun _ h => h, ⟨fun _ h => h, trivial⟩⟩⟩ (fun a10 w10 st10 => ?_)
  obtain ⟨v12, p12, h13⟩ := bs h7
  refine st10.cSF (l := []) 0 (st10.bkN (s := 5) rfl (fun _ h => h)) rfl rfl kN78 ((st10.st.has 8 _ rfl).1.trans (st10.st.has 5 _ rfl).1.symm) (by simp) .nil (spec_anyTree_w p12) [] rfl [2] rfl rfl (by decide) (fun G11 M11 a11 w11 st11 => ?_)
  refine st11.seg 1 (
    sc rfl (oM rfl (tp rfl)) <| .nil) [9] rfl [(2, 1), (5, 0), (10, 0)] rfl ⟨fun _ h => h, ⟨fun _ h => h, ⟨fun _ h => h, trivial⟩⟩⟩ (fun a14 w14 st14 => ?_)
  obtain ⟨v16, p16, h17⟩ := bs h13
  refine st14.cSF (l := []) 0 (st14.bkN (s := 5) rfl (fun _ h => h)) rfl rfl kN79 ((st14.st.has 10 _ rfl).1.trans (st14.st.has 5 _ rfl).1.symm) (by simp) .nil (spec_anyPath_w p16) [9] rfl [2] rfl rfl (by decide) (fun G15 M15 a15 w15 st15 => ?_)
  refine st15.seg 1 (
    sc rfl (oM rfl (tp rfl)) <| .nil) [9, 11] rfl [(2, 1), (12, 0)] rfl ⟨fun _ h => h, ⟨fun _ h => h, trivial⟩⟩ (fun a18 w18 st18 => ?_)
  obtain ⟨v20, p20, h21⟩ := bs h17
  refine st18.cSF (l := []) 0 (st18.bkN (s := 12) rfl (fun _ h => h)) rfl rfl kN80 rfl (by simp) .nil (spec_anyPackage_w p20) [9, 11] rfl [2] rfl rfl (by decide) (fun G19 M19 a19 w19 st19 => ?_)
  refine st19.store (sb := 2) 1 FldS.id rfl rfl rfl kT30 rfl rfl (tp rfl) rfl [11, 13] rfl [] rfl rfl (fun M23 w23 st23 => ?_)
  refine st23.seg 2 (
    sc rfl (oA rfl (tp rfl)) <|
    sc rfl (oA rfl (tp rfl)) <| .nil) [3, 4] rfl [(2, 1)] rfl ⟨fun _ h => h, trivial⟩ (fun a24 w24 st24 => ?_)
  refine wpList_nil ?_
  refine then_normal ?_
  refine wp_ret ?_
  obtain rfl := Option.some.inj h21
  exact st24.ret3c rfl kT30 rfl (st24.frozen (t := 3) rfl) (st24.frozen (t := 4) rfl) ⟨rfl, rfl⟩ rfl

def m_laws_FnKidsOf_s0 (v6 : Tree × (List Int) × Str) (v14 : List Str) (v36 : List Str) (s41 : Int × Int) : Option ((Int × Int) ⊕ (Int ⊕ Bool)) :=
if (cmpI .lss s41.2 (v36.length : Int)) = true then (Option.bind (α := Int ⊕ ((Int × Int) ⊕ (Int ⊕ Bool))) ((atI v36 s41.2).bind fun v47 =>
(m_impl_ParentOf v47).bind fun v48 =>
if (decide (v48 = v6.2.2)) = true then ((i64 (s41.1 + (1 : Int))).bind fun v54 =>
(atI v36 s41.2).bind fun v57 =>
(m_impl_LastOf v57).bind fun v58 =>
(m_laws_hasText v14 v58).bind fun v59 =>
if (!v59) = true then (some (.inr (.inr (.inr false))))
else (some (.inl v54)))
else (some (.inl s41.1))) (Sum.elim (fun b46 =>
(i64 (s41.2 + (1 : Int))).bind fun v71 =>
some (.inl (b46, v71))) some))
else (some (.inr (.inl s41.1)))

def m_laws_FnKidsOf (x0 : List UInt8) : Option Bool :=
if (cmpI .gtr (x0.length : Int) (1048576 : Int)) = true then (some true)
else ((m_spec_DrawKidsOf x0).bind fun v6 =>
(m_impl_KidsOf v6.1 v6.2.1 v6.2.2).bind fun v14 =>
(m_spec_KidsOf v6.1 v6.2.1 v6.2.2).bind fun v17 =>
(m_laws_equalTexts v14 v17).bind fun v18 =>
(gO ((!v18) == false) (m_impl_ValidTree v6.1)).bind fun v19 =>
(gO (((!v18) || (!v19)) == false) (m_impl_ValidPath v6.2.1)).bind fun v20 =>
(gO (((((!v18) || (!v19)) || (!v20)) == false) && (decide (v6.2.2 ≠ (⟨[]⟩ : Str)) == true)) (m_impl_IsPackage v6.1 v6.2.1 v6.2.2)).bind fun v21 =>
if ((((!v18) || (!v19)) || (!v20)) || (decide (v6.2.2 ≠ (⟨[]⟩ : Str)) && (!v21))) = true then ((m_spec_KidsOf v6.1 v6.2.1 v6.2.2).bind fun v30 =>
(m_laws_equalTexts v14 v30).bind fun v31 =>
some v31)
else ((m_impl_FoundNames v6.1 v6.2.1).bind fun v36 =>
Option.bind (α := Int ⊕ Bool) (loopM (fun s41 => m_laws_FnKidsOf_s0 v6 v14 v36 s41) ((0 : Int), (0 : Int))) (Sum.elim (fun b39 =>
(gO (cmpI .eql b39 (v14.length : Int) == true) (m_laws_rises v14)).bind fun v76 =>
some (cmpI .eql b39 (v14.length : Int) && v76)) some)))

theorem laws_FnKidsOf_w {x0 : List UInt8} {r : Bool} (h : m_laws_FnKidsOf x0 = some r) : Fn Tryz.prog 5 [dt x0] (dt r) := by
  unfold m_laws_FnKidsOf at h
  refine fnx (fn := Tryz.f5) 1 Tryz.func5 rfl (of_decide_eq_true rfl) rfl (fun M w0 a0 st0 => ?_)
  refine st0.sq0 (
    sc rfl (oA rfl cB) <| .nil) [0] rfl (fun a1 w1 st1 => ?_)
  refine wp_seq ?_
  refine st1.sq0 (
    sc rfl (oM rfl (tp rfl)) <|
    sc rfl (op_lenL rfl kL36 (tp rfl)) <|
    sc rfl (oCI rfl (tp rfl) cI) <| .nil) [0, 12] rfl (fun a2 w2 st2 => ?_)
  refine st2.cs (c := 12) rfl h (fun c3 h3 => ?_) (fun c4 h4 => ?_)
  ·
    refine st2.sq0 (
      sc rfl (oA rfl cB) <| .nil) [2] rfl (fun a5 w5 st5 => ?_)
    refine wp_ret (thn_ret ?_)
    exact st5.ret rfl rfl h3
  ·
    refine wp_skip ?_
    refine then_normal ?_
    refine wp_seq ?_
    refine wp_region_list ?_
    obtain ⟨v6, p6, h7⟩ := bs h4
    refine st2.seg 6 (
      sc rfl (oM rfl (tp rfl)) <|
      sc rfl (op_call (l := [.tmp 14]) rfl kN26 (.cons (tp rfl) .nil) (spec_DrawKidsOf_w p6)) <|
      sc rfl (oM rfl (tp rfl)) <|
      sc rfl (xExt (i := 0) rfl (tp rfl) rfl) <|
      sc rfl (xExt (i := 1) rfl (tp rfl) rfl) <|
      sc rfl (xExt (i := 2) rfl (tp rfl) rfl) <| .nil) [16, 17, 18] rfl [] rfl trivial (fun a8 w8 st8 => ?_)
    refine st8.alloc 0 rfl rfl kZ30 zrTree (by simp) [16, 17, 18] rfl [] rfl rfl (fun b10 M10 a10 w10 st10 => ?_)
    refine st10.store (sb := 3) 0 FldS.id rfl rfl rfl kT30 rfl rfl (tp rfl) rfl [17, 18] rfl [] rfl rfl (fun M12 w12 st12 => ?_)
    refine st12.seg 2 (
      sc rfl (oA rfl (tp rfl)) <|
      sc rfl (oA rfl (tp rfl)) <| .nil) [4, 5] rfl [(3, 0)] rfl ⟨fun _ h => h, trivial⟩ (fun a13 w13 st13 => ?_)
    refine wpList_nil ?_
    refine then_normal ?_
    obtain ⟨v14, p14, h15⟩ := bs h7
    refine st13.sq (
      sc rfl (op_loadBox rfl kT30 (tp rfl)) <|
      sc rfl (oM rfl (tp rfl)) <|
      sc rfl (oM rfl (tp rfl)) <|
      sc rfl (op_call (l := [.tmp 19, .tmp 20, .tmp 21]) rfl kN27 (.cons (tp rfl) (.cons (tp rfl) (.cons (tp rfl) .nil))) ((impl_KidsOf_w p14)).fn) <|
      sc rfl (oA rfl (tp rfl)) <| .nil) [4, 5, 6] rfl [(3, 0)] rfl ⟨fun _ h => h, trivial⟩ (fun a16 w16 st16 => ?_)
    refine wp_seq ?_
    obtain ⟨v17, p17, h22⟩ := bs h15
    obtain ⟨v18, p18, h23⟩ := bs h22
    obtain ⟨v19, p19, h24⟩ := bs h23
    obtain ⟨v20, p20, h25⟩ := bs h24
    obtain ⟨v21, p21, h26⟩ := bs h25
    refine st16.sq (
      sc rfl (oM rfl (tp rfl)) <|
      sc rfl (op_loadBox rfl kT30 (tp rfl)) <|
      sc rfl (oM rfl (tp rfl)) <|
      sc rfl (oM rfl (tp rfl)) <|
      sc rfl (op_call (l := [.tmp 24, .tmp 25, .tmp 26]) rfl kN28 (.cons (tp rfl) (.cons (tp rfl) (.cons (tp rfl) .nil))) ((spec_KidsOf_w p17)).fn) <|
      sc rfl (op_call (l := [.tmp 23, .tmp 27]) rfl kN21 (.cons (tp rfl) (.cons (tp rfl) .nil)) (laws_equalTexts_w p18)) <|
      sc rfl (op_not rfl (tp rfl)) <|
      sc rfl (oM rfl (tp rfl)) <|
      sg rfl rfl (fun hg => op_loadBox rfl kT30 (tp rfl)) <|
      sg rfl rfl (fun hg => op_call (l := [.tmp 31]) rfl kN29 (.cons (opd_g hg rfl) .nil) (impl_ValidTree_w (gh hg p19))) <|
      sg rfl rfl (fun hg => op_not rfl (opd_g hg rfl)) <|
      sc rfl (op_or rfl (tp rfl) (opd_tmp rfl)) <|
      sc rfl (oM rfl (tp rfl)) <|
      sg rfl rfl (fun hg => oM rfl (tp rfl)) <|
      sg rfl rfl (fun hg => op_call (l := [.tmp 36]) rfl kN30 (.cons (opd_g hg rfl) .nil) (impl_ValidPath_w (gh hg p20))) <|
      sg rfl rfl (fun hg => op_not rfl (opd_g hg rfl)) <|
      sc rfl (op_or rfl (tp rfl) (opd_tmp rfl)) <|
      sc rfl (oM rfl (tp rfl)) <|
      sg rfl rfl (fun hg => oM rfl (tp rfl)) <|
      sg rfl rfl (fun hg => op_neS rfl (opd_g hg rfl) (opd_str (by decide))) <|
      sg rfl rfl (fun hg => oM rfl (opd_g hg rfl)) <|
      sgg rfl rfl (fun hg => op_loadBox rfl kT30 (tp rfl)) <|
      sgg rfl rfl (fun hg => oM rfl (tp rfl)) <|
      sgg rfl rfl (fun hg => oM rfl (tp rfl)) <|
      sgg rfl rfl (fun hg => op_call (l := [.tmp 44, .tmp 45, .tmp 46]) rfl kN31 (.cons (opd_g hg rfl) (.cons (opd_g hg rfl) (.cons (opd_g hg rfl) .nil))) (impl_IsPackage_w (gh hg p21))) <|
      sgg rfl rfl (fun hg => op_not rfl (opd_g hg rfl)) <|
      sg rfl rfl (fun hg => op_and rfl (opd_g hg rfl) (opd_gg hg rfl)) <|
      sc rfl (op_or rfl (tp rfl) (opd_tmp rfl)) <| .nil) [4, 5, 6, 50] rfl [(3, 0)] rfl ⟨fun _ h => h, trivial⟩ (fun a27 w27 st27 => ?_)
    refine st27.cs (c := 50) rfl h26 (fun c28 h28 => ?_) (fun c29 h29 => ?_)
    ·
      obtain ⟨v30, p30, h32⟩ := bs h28
      obtain ⟨v31, p31, h33⟩ := bs h32
      refine st27.sq0 (
        sc rfl (oM rfl (tp rfl)) <|
        sc rfl (op_loadBox rfl kT30 (tp rfl)) <|
        sc rfl (oM rfl (tp rfl)) <|
        sc rfl (oM rfl (tp rfl)) <|
        sc rfl (op_call (l := [.tmp 52, .tmp 53, .tmp 54]) rfl kN28 (.cons (tp rfl) (.cons (tp rfl) (.cons (tp rfl) .nil))) ((spec_KidsOf_w p30)).fn) <|
        sc rfl (op_call (l := [.tmp 51, .tmp 55]) rfl kN21 (.cons (tp rfl) (.cons (tp rfl) .nil)) (laws_equalTexts_w p31)) <|
        sc rfl (oA rfl (tp rfl)) <| .nil) [2] rfl (fun a34 w34 st34 => ?_)
      refine wp_ret (thn_ret ?_)
      exact st34.ret rfl rfl h33
    ·
      refine wp_skip ?_
      refine then_normal ?_
      refine st27.sq (
        sc rfl (oA rfl cI) <| .nil) [4, 5, 6, 7] rfl [(3, 0)] rfl ⟨fun _ h => h, trivial⟩ (fun a35 w35 st35 => ?_)
      obtain ⟨v36, p36, h37⟩ := bs h29
      refine st35.sq0 (
        sc rfl (op_loadBox rfl kT30 (tp rfl)) <|
        sc rfl (oM rfl (tp rfl)) <|
        sc rfl (op_call (l := [.tmp 57, .tmp 58]) rfl kN32 (.cons (tp rfl) (.cons (tp rfl) .nil)) ((impl_FoundNames_w p36)).fn) <|
        sc rfl (oA rfl (tp rfl)) <| .nil) [5, 6, 7, 8] rfl (fun a38 w38 st38 => ?_)
      obtain ⟨o39, p39, k39⟩ := bs h37
      refine wp_seq_join (fun a w => ∃ b39, o39 = .inl b39 ∧ (∃ M1 q39_0, Sx (Frm.of w0) 91 M M1 [oneB q39_0] [(6, dt v14), (7, dt b39)] [] a w)) ?_ ?_
      ·
        refine st38.sq0 (
          sc rfl (oA rfl cI) <| .nil) [5, 6, 7, 8, 9] rfl (fun a40 w40 st40 => ?_)
        refine wp_block ?_
        refine loop_model p39 (fun s41 a w => ∃ M1 q41_0, Sx (Frm.of w0) 91 M M1 [oneB q41_0] [(5, dt v6.2.2), (6, dt v14), (7, dt s41.1), (8, dt v36), (9, dt s41.2)] [] a w) ⟨_, _, st40.sel [5, 6, 7, 8, 9] rfl [] rfl trivial⟩ ?_
        rintro s41 x41 a41 w41 ⟨M41, q41_0, st41⟩ hs41 hx41
        have h42 : m_laws_FnKidsOf_s0 v6 v14 v36 s41 = some x41 := hs41
        unfold m_laws_FnKidsOf_s0 at h42
        refine wp_seq ?_
        refine st41.sq0 (
            sc rfl (oM rfl (tp rfl)) <|
            sc rfl (oM rfl (tp rfl)) <|
            sc rfl (op_lenL rfl kL47 (tp rfl)) <|
            sc rfl (oCI rfl (tp rfl) (tp rfl)) <| .nil) [5, 6, 7, 8, 9, 63] rfl (fun a43 w43 st43 => ?_)
        refine st43.cs (c := 63) rfl h42 (fun c44 h44 => ?_) (fun c45 h45 => ?_)
        ·
          refine wp_skip ?_
          refine then_normal ?_
          obtain ⟨o46, p46, k46⟩ := bs h44
          refine wp_seq_join (fun a w => ∃ b46, o46 = .inl b46 ∧ (∃ M1 q46_0, Sx (Frm.of w0) 91 M M1 [oneB q46_0] [(5, dt v6.2.2), (6, dt v14), (7, dt b46), (8, dt v36), (9, dt s41.2)] [] a w)) ?_ ?_
          ·
            refine wp_block ?_
            obtain ⟨v47, p47, h49⟩ := bs p46
            obtain ⟨v48, p48, h50⟩ := bs h49
            refine st43.sq0 (
                sc rfl (oM rfl (tp rfl)) <|
                sc rfl (oM rfl (tp rfl)) <|
                sc rfl (xIdx rfl kS47 (tp rfl) (tp rfl) p47) <|
                sc rfl (op_load rfl kT9 (tp rfl)) <|
                sc rfl (op_call (l := [.tmp 69]) rfl kN33 (.cons (tp rfl) .nil) (impl_ParentOf_w p48)) <|
                sc rfl (oM rfl (tp rfl)) <|
                sc rfl (op_eqS rfl (tp rfl) (tp rfl)) <| .nil) [5, 6, 7, 8, 9, 72] rfl (fun a51 w51 st51 => ?_)
            refine st51.cs (c := 72) rfl h50 (fun c52 h52 => ?_) (fun c53 h53 => ?_)
            ·
              obtain ⟨v54, p54, h55⟩ := bs h52
              refine st51.sq0 (
                  sc rfl (oM rfl (tp rfl)) <|
                  sc rfl (xAr rfl (tp rfl) cI p54) <|
                  sc rfl (oA rfl (tp rfl)) <| .nil) [5, 6, 7, 8, 9] rfl (fun a56 w56 st56 => ?_)
              obtain ⟨v57, p57, h60⟩ := bs h55
              obtain ⟨v58, p58, h61⟩ := bs h60
              obtain ⟨v59, p59, h62⟩ := bs h61
              refine st56.sq0 (
                  sc rfl (oM rfl (tp rfl)) <|
                  sc rfl (oM rfl (tp rfl)) <|
                  sc rfl (oM rfl (tp rfl)) <|
                  sc rfl (xIdx rfl kS47 (tp rfl) (tp rfl) p57) <|
                  sc rfl (op_load rfl kT9 (tp rfl)) <|
                  sc rfl (op_call (l := [.tmp 79]) rfl kN35 (.cons (tp rfl) .nil) (impl_LastOf_w p58)) <|
                  sc rfl (op_call (l := [.tmp 75, .tmp 80]) rfl kN34 (.cons (tp rfl) (.cons (tp rfl) .nil)) (laws_hasText_w p59)) <|
                  sc rfl (op_not rfl (tp rfl)) <| .nil) [5, 6, 7, 8, 9, 82] rfl (fun a63 w63 st63 => ?_)
              refine st63.cs (c := 82) rfl h62 (fun c64 h64 => ?_) (fun c65 h65 => ?_)
              ·
                refine st63.sq0 (
                    sc rfl (oA rfl cB) <| .nil) [2] rfl (fun a66 w66 st66 => ?_)
                refine wp_ret (blk_ret (thn_ret (thn_ret (blk_ret (thn_ret ?_)))))
                have h67 := jo h64 k46
                have h68 := lo h67 hx41
                have h69 := jo h68 k39
                exact st66.ret rfl rfl h69
              ·
                refine wp_skip ?_
                refine blk_normal ?_
                refine then_normal ?_
                exact ⟨_, (Option.some.inj h65).symm, ⟨_, _, st63.sel [5, 6, 7, 8, 9] rfl [] rfl trivial⟩⟩
            ·
              refine wp_skip ?_
              refine blk_normal ?_
              refine then_normal ?_
              exact ⟨_, (Option.some.inj h53).symm, ⟨_, _, st51.sel [5, 6, 7, 8, 9] rfl [] rfl trivial⟩⟩
          · rintro a46 w46 ⟨b46, rfl, ⟨M46, q46_0, st46⟩⟩
            have h70 := jn k46
            obtain ⟨v71, p71, h72⟩ := bs h70
            refine st46.rg0 (
                sc rfl (oM rfl (tp rfl)) <|
                sc rfl (xAr rfl (tp rfl) cI p71) <|
                sc rfl (oA rfl (tp rfl)) <| .nil) [5, 6, 7, 8, 9] rfl (fun a73 w73 st73 => ?_)
            refine then_normal ?_
            exact ⟨_, (Option.some.inj h72).symm, ⟨_, _, st73.sel [5, 6, 7, 8, 9] rfl [] rfl trivial⟩⟩
        ·
          refine wp_exit (thn_exit (thn_exit (exit_here ?_)))
          refine then_normal ?_
          have h74 := lo h45 hx41
          exact ⟨_, (Option.some.inj h74).symm, ⟨_, _, st43.sel [6, 7] rfl [] rfl trivial⟩⟩
      · rintro a39 w39 ⟨b39, rfl, ⟨M39, q39_0, st39⟩⟩
        have h75 := jn k39
        obtain ⟨v76, p76, h77⟩ := bs h75
        refine st39.sq0 (
          sc rfl (oM rfl (tp rfl)) <|
          sc rfl (oM rfl (tp rfl)) <|
          sc rfl (op_lenL rfl kL47 (tp rfl)) <|
          sc rfl (oCI rfl (tp rfl) (tp rfl)) <|
          sc rfl (oM rfl (tp rfl)) <|
          sg rfl rfl (fun hg => oM rfl (tp rfl)) <|
          sg rfl rfl (fun hg => op_call (l := [.tmp 88]) rfl kN36 (.cons (opd_g hg rfl) .nil) (laws_rises_w (gh hg p76))) <|
          sc rfl (op_and rfl (tp rfl) (opd_tmp rfl)) <|
          sc rfl (oA rfl (tp rfl)) <| .nil) [2] rfl (fun a78 w78 st78 => ?_)
        refine wp_ret ?_
        exact st78.ret rfl rfl h77

end Go.Proofs.YtionokffhhiicaaGreatDoor
