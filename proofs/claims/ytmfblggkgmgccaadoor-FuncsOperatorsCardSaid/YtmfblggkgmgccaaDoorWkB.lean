/- Walks: the code computes what the partial functions say. -/
import Derived.Test.YtmfblggkgmgccaaDoorSpB
import Derived.Test.YtmfblggkgmgccaaDoorWkA
set_option linter.unusedSimpArgs false
set_option linter.unusedVariables false
set_option linter.unusedSectionVars false
namespace Go.Proofs.YtmfblggkgmgccaaDoor
open Go.Stp Go.RowKit Go.ValP Go.Sp
set_option maxRecDepth 100000
theorem value_Compare_ok {x0 : V} {x1 : V} {res : Int} {w0 : World} (hS : value_Compare x0 x1 = some res) : Calls Tryd.prog 10 [.agg #[.int .i64 x0.k, .int .i64 x0.n, S x0.s], .agg #[.int .i64 x1.k, .int .i64 x1.n, S x1.s]].toArray w0 (Ret fun v w => v = .int .i64 res ∧ Ext w0 w) := by
  refine enter Tryd.func10 rfl rfl rfl fun Q a h hret0 hnor => ?_
  obtain ⟨Zi, Z, H⟩ : ∃ Zi Z, HZ w0 Zi Z [] w0 := ⟨_, _, HZ.start w0⟩
  have h := h.only [0, 1] (l' := [(0, _), (1, _)]) rfl
  unfold value_Compare at hS
  refine c_region fun K hK => ?_
  refine z_box h H rfl [_, _, _] rfl rfl fun a p2_1 w X H h => ?_
  have H : HZ w0 _ _ [_] _ := H
  refine z_box h H rfl [_, _, _] rfl rfl fun a p3_2 w X H h => ?_
  have H : HZ w0 _ _ [_, _] _ := H
  refine st1 h rfl rfl rfl (v_assign rfl) fun a h => ?_
  refine c_nil hK ?_
  refine c_flowT 6 h (by kernel_rfl) (by kernel_rfl) fun K hK => ?_
  refine f1 [2] rfl rfl rfl rfl (fun w X => have H := H.ext X; v_loadA [_, _, _] rfl Tryd.isAgg23 Tryd.sizeOf23 (H.hp.get 0 rfl) rfl rfl) ?_
  refine f1 [3] rfl rfl rfl rfl (fun w X => have H := H.ext X; v_loadA [_, _, _] rfl Tryd.isAgg23 Tryd.sizeOf23 (H.hp.get 1 rfl) rfl rfl) ?_
  obtain ⟨y7_3, hy7_3, hS⟩ := bo hS
  refine f2 (V := .agg #[.int .i64 y7_3.k, .int .i64 y7_3.n, S y7_3.s]) [5, 6] rfl rfl rfl rfl (fun w X => d_call [_, _] rfl Tryd.call24 (value_like_ok (x0 := x0) (x1 := x1) hy7_3)) ?_
  refine f1 [3] rfl rfl rfl rfl (fun w X => have H := H.ext X; v_loadA [_, _, _] rfl Tryd.isAgg23 Tryd.sizeOf23 (H.hp.get 1 rfl) rfl rfl) ?_
  refine f1 [2] rfl rfl rfl rfl (fun w X => have H := H.ext X; v_loadA [_, _, _] rfl Tryd.isAgg23 Tryd.sizeOf23 (H.hp.get 0 rfl) rfl rfl) ?_
  obtain ⟨y10_4, hy10_4, hS⟩ := bo hS
  refine f2 (V := .agg #[.int .i64 y10_4.k, .int .i64 y10_4.n, S y10_4.s]) [8, 9] rfl rfl rfl rfl (fun w X => d_call [_, _] rfl Tryd.call24 (value_like_ok (x0 := x1) (x1 := x0) hy10_4)) ?_
  refine fn_ ?_
  intro a w X hR hA
  have h := hR.out [2, 3, 7, 10]
  have h : Fr 42 [(10, _), (7, _), (3, _), (2, _)] a := h
  have H := H.ext X
  refine z_store h H 0 rfl rfl rfl Tryd.sizeOf23 [_, _, _] rfl rfl rfl (by simp) [_, _, _] rfl (hl' := [_, _]) rfl fun w H => ?_
  refine z_store h H 1 rfl rfl rfl Tryd.sizeOf23 [_, _, _] rfl rfl rfl (by simp) [_, _, _] rfl (hl' := [_, _]) rfl fun w H => ?_
  refine c_nil hK ?_
  refine c_seq _ (fun a w c => c) fun Q5 hN5 hO5 => ?_
  have hret5 := hO5.ret hret0
  refine c_region fun K hK => ?_
  refine st1 h rfl rfl rfl (v_fieldAddr rfl Tryd.underlying23 rfl Tryd.sizeOf3 rfl rfl) fun a h => ?_
  refine st1 h rfl rfl rfl (v_load1 rfl Tryd.isAgg3 (H.hp.get 0 rfl) rfl) fun a h => ?_
  refine st1 h rfl rfl rfl (v_fieldAddr rfl Tryd.underlying23 rfl Tryd.sizeOf3 rfl rfl) fun a h => ?_
  refine st1 h rfl rfl rfl (v_load1 rfl Tryd.isAgg3 (H.hp.get 1 rfl) rfl) fun a h => ?_
  obtain ⟨z15_6, ez15_6, hS⟩ := bv hS
  refine st1 h rfl rfl rfl (vB ez15_6 (v_ne rfl rfl)) fun a h => ?_
  refine c_nil hK ?_
  have h := h.only [2, 3, 15] (l' := [(2, _), (3, _), (15, _)]) rfl
  refine c_cond h rfl (fun ec7 => ?_) (fun ec7 => ?_)
  · have hS := ifT ec7 hS
    refine c_flow h (by kernel_rfl) (by kernel_rfl) ?_
    refine f1 [2] rfl rfl rfl rfl (fun w X => have H := H.ext X; v_loadA [_, _, _] rfl Tryd.isAgg23 Tryd.sizeOf23 (H.hp.get 0 rfl) rfl rfl) ?_
    obtain ⟨y17_8, hy17_8, hS⟩ := bo hS
    refine f2 (V := .int .i64 y17_8) [16] rfl rfl rfl rfl (fun w X => d_call [_] rfl Tryd.call25 (value_rank_ok (x0 := y7_3) hy17_8)) ?_
    refine f1 [3] rfl rfl rfl rfl (fun w X => have H := H.ext X; v_loadA [_, _, _] rfl Tryd.isAgg23 Tryd.sizeOf23 (H.hp.get 1 rfl) rfl rfl) ?_
    obtain ⟨y19_9, hy19_9, hS⟩ := bo hS
    refine f2 (V := .int .i64 y19_9) [18] rfl rfl rfl rfl (fun w X => d_call [_] rfl Tryd.call25 (value_rank_ok (x0 := y10_4) hy19_9)) ?_
    obtain ⟨z20_10, ez20_10, hS⟩ := bv hS
    refine f1 [17, 19] rfl rfl rfl rfl (fun w X => vI ez20_10 (v_subw rfl rfl)) ?_
    refine f1 [20] rfl rfl rfl rfl (fun w X => v_assign rfl) ?_
    refine fn_ ?_
    intro a w X hR hA
    have h := hR.out [4]
    have h : Fr 42 [(4, _)] a := h
    have H := H.ext X
    obtain rfl := so hS
    refine c_ret (hret5 _ _ (out1 h rfl rfl ?_))
    exact ⟨rfl, H.out⟩
  · have hS := ifF ec7 hS
    refine c_skip ?_
    refine hN5 _ _ ?_
    refine c_block _ (fun a w c => c) fun Q11 hN11 hx0_11 hO11 => ?_
    have hret11 := hO11.ret hret0
    refine c_region fun K hK => ?_
    refine st1 h rfl rfl rfl (v_fieldAddr rfl Tryd.underlying23 rfl Tryd.sizeOf3 rfl rfl) fun a h => ?_
    refine st1 h rfl rfl rfl (v_load1 rfl Tryd.isAgg3 (H.hp.get 0 rfl) rfl) fun a h => ?_
    obtain ⟨z24_12, ez24_12, hS⟩ := bv hS
    refine st1 h rfl rfl rfl (vB ez24_12 (v_eq rfl rfl)) fun a h => ?_
    refine st1 h rfl rfl rfl (v_assign rfl) fun a h => ?_
    refine c_nil hK ?_
    have h := h.only [2, 3, 21] (l' := [(2, _), (3, _), (21, _)]) rfl
    refine c_cond h rfl (fun ec13 => ?_) (fun ec13 => ?_)
    · have hS := ifT ec13 hS
      refine c_region fun K hK => ?_
      refine st1 h rfl rfl rfl (v_fieldAddr rfl Tryd.underlying23 rfl Tryd.sizeOf9 rfl rfl) fun a h => ?_
      refine st1 h rfl rfl rfl (v_load1 rfl Tryd.isAgg9 (H.hp.get 0 rfl) rfl) fun a h => ?_
      refine st1 h rfl rfl rfl (v_fieldAddr rfl Tryd.underlying23 rfl Tryd.sizeOf9 rfl rfl) fun a h => ?_
      refine st1 h rfl rfl rfl (v_load1 rfl Tryd.isAgg9 (H.hp.get 1 rfl) rfl) fun a h => ?_
      obtain ⟨z29_15, ez29_15, hS⟩ := bv hS
      refine st2v (T := Ext) (V := .int .i64 z29_15) h rfl rfl rfl ((by rw [ez29_15]; exact d_call [_, _] rfl Tryd.call26 (lib_compare))) fun w X a h => ?_
      have H := H.ext X
      refine st1 h rfl rfl rfl (v_assign rfl) fun a h => ?_
      refine c_nil hK ?_
      have h := h.only [4] (l' := [(4, _)]) rfl
      obtain rfl := so hS
      refine c_ret (hret11 _ _ (out1 h rfl rfl ?_))
      exact ⟨rfl, H.out⟩
    · have hS := ifF ec13 hS
      refine c_region fun K hK => ?_
      refine st1 h rfl rfl rfl (v_fieldAddr rfl Tryd.underlying23 rfl Tryd.sizeOf2 rfl rfl) fun a h => ?_
      refine st1 h rfl rfl rfl (v_load1 rfl Tryd.isAgg2 (H.hp.get 0 rfl) rfl) fun a h => ?_
      refine st1 h rfl rfl rfl (v_fieldAddr rfl Tryd.underlying23 rfl Tryd.sizeOf2 rfl rfl) fun a h => ?_
      refine st1 h rfl rfl rfl (v_load1 rfl Tryd.isAgg2 (H.hp.get 1 rfl) rfl) fun a h => ?_
      obtain ⟨z35_16, ez35_16, hS⟩ := bv hS
      refine st1 h rfl rfl rfl (vB ez35_16 (v_lt rfl rfl)) fun a h => ?_
      refine st1 h rfl rfl rfl (v_assign rfl) fun a h => ?_
      refine c_nil hK ?_
      have h := h.only [2, 3, 30] (l' := [(2, _), (3, _), (30, _)]) rfl
      refine c_cond h rfl (fun ec17 => ?_) (fun ec17 => ?_)
      · have hS := ifT ec17 hS
        refine c_region fun K hK => ?_
        refine st1 h rfl rfl rfl (v_assign rfl) fun a h => ?_
        refine c_nil hK ?_
        obtain rfl := so hS
        refine c_ret (hret11 _ _ (out1 h rfl rfl ?_))
        exact ⟨rfl, H.out⟩
      · have hS := ifF ec17 hS
        refine c_region fun K hK => ?_
        refine st1 h rfl rfl rfl (v_fieldAddr rfl Tryd.underlying23 rfl Tryd.sizeOf2 rfl rfl) fun a h => ?_
        refine st1 h rfl rfl rfl (v_load1 rfl Tryd.isAgg2 (H.hp.get 0 rfl) rfl) fun a h => ?_
        refine st1 h rfl rfl rfl (v_fieldAddr rfl Tryd.underlying23 rfl Tryd.sizeOf2 rfl rfl) fun a h => ?_
        refine st1 h rfl rfl rfl (v_load1 rfl Tryd.isAgg2 (H.hp.get 1 rfl) rfl) fun a h => ?_
        obtain ⟨z41_18, ez41_18, hS⟩ := bv hS
        refine st1 h rfl rfl rfl (vB ez41_18 (v_gt rfl rfl)) fun a h => ?_
        refine st1 h rfl rfl rfl (v_assign rfl) fun a h => ?_
        refine c_nil hK ?_
        have h := h.only [36] (l' := [(36, _)]) rfl
        refine c_cond h rfl (fun ec19 => ?_) (fun ec19 => ?_)
        · have hS := ifT ec19 hS
          refine c_region fun K hK => ?_
          refine st1 h rfl rfl rfl (v_assign rfl) fun a h => ?_
          refine c_nil hK ?_
          obtain rfl := so hS
          refine c_ret (hret11 _ _ (out1 h rfl rfl ?_))
          exact ⟨rfl, H.out⟩
        · have hS := ifF ec19 hS
          refine c_skip ?_
          refine hN11 _ _ ?_
          refine c_region fun K hK => ?_
          refine st1 h rfl rfl rfl (v_assign rfl) fun a h => ?_
          refine c_nil hK ?_
          obtain rfl := so hS
          refine c_ret (hret0 _ _ (out1 h rfl rfl ?_))
          exact ⟨rfl, H.out⟩

theorem value_ErrorName_ok {x0 : Int} {res : (List UInt8)} {w0 : World} (hS : value_ErrorName x0 = some res) (hG : GW w0) : Calls Tryd.prog 27 [.int .i64 x0].toArray w0 (Ret fun v w => v = S res ∧ Ext w0 w) := by
  refine enter Tryd.func27 rfl rfl rfl fun Q a h hret0 hnor => ?_
  obtain ⟨Zi, Z, H⟩ : ∃ Zi Z, HZ w0 Zi Z [] w0 := ⟨_, _, HZ.start w0⟩
  have h := h.only [0] (l' := [(0, _)]) rfl
  unfold value_ErrorName at hS
  refine c_region fun K hK => ?_
  refine st1 h rfl rfl rfl (v_assign rfl) fun a h => ?_
  refine c_nil hK ?_
  refine c_region fun K hK => ?_
  obtain ⟨c2, hS⟩ := ck hS
  obtain ⟨z4_3, ez4_3, hS⟩ := bv hS
  refine z_callR (data := z4_3) h H rfl rfl rfl ((by rw [ez4_3]; exact d_call [_] rfl Tryd.call35 (lib_fields c2 (hG.ext H.out)))) fun v4_4 Z w hsub X H r4_4 a h => ?_
  refine st1 h rfl rfl rfl (v_assign rfl) fun a h => ?_
  refine c_nil hK ?_
  refine c_seq _ (fun a w c => c) fun Q5 hN5 hO5 => ?_
  have hret5 := hO5.ret hret0
  refine c_region fun K hK => ?_
  refine st1 h rfl rfl rfl (v_move rfl) fun a h => ?_
  obtain ⟨z6_6, ez6_6, hS⟩ := bv hS
  refine st1 h rfl rfl rfl (vB ez6_6 (v_lt rfl rfl)) fun a h => ?_
  refine st1 h rfl rfl rfl (v_move rfl) fun a h => ?_
  refine st_g h rfl rfl (gF rfl) rfl rfl (fun e0 => v_move rfl) fun a h => ?_
  refine st_g h rfl rfl (gF rfl) rfl rfl (fun e0 => v_move rfl) fun a h => ?_
  refine st_g h rfl rfl (gF rfl) rfl rfl (fun e0 => v_len Tryd.underlying57 (eg e0 rfl) (r4_4.at H.zin)) fun a h => ?_
  obtain ⟨z11_7, ez11_7, hS⟩ := bv hS
  refine st_g h rfl rfl (gF rfl) rfl rfl (fun e0 => vB ez11_7 (v_gt (eg e0 rfl) (eg e0 rfl))) fun a h => ?_
  obtain ⟨z12_8, ez12_8, hS⟩ := bv hS
  refine st1 h rfl rfl rfl (vB ez12_8 (v_or rfl rfl)) fun a h => ?_
  refine c_nil hK ?_
  have h := h.only [0, 3, 12] (l' := [(0, _), (3, _), (12, _)]) rfl
  refine c_cond h rfl (fun ec9 => ?_) (fun ec9 => ?_)
  · have hS := ifT ec9 hS
    refine c_region fun K hK => ?_
    refine st1 h rfl rfl rfl (v_assign rfl) fun a h => ?_
    refine c_nil hK ?_
    obtain rfl := so hS
    refine c_ret (hret5 _ _ (out1 h rfl rfl ?_))
    exact ⟨rfl, H.out⟩
  · have hS := ifF ec9 hS
    refine c_skip ?_
    refine hN5 _ _ ?_
    refine c_region fun K hK => ?_
    refine st1 h rfl rfl rfl (v_move rfl) fun a h => ?_
    refine st1 h rfl rfl rfl (v_move rfl) fun a h => ?_
    obtain ⟨z15_10, ez15_10, hS⟩ := bv hS
    refine st1 h rfl rfl rfl (vI ez15_10 (v_subw rfl rfl)) fun a h => ?_
    obtain ⟨c11, hS⟩ := ck hS
    obtain ⟨z16_12, ez16_12, hS⟩ := bv hS
    refine st_idx h Tryd.underlying57 Tryd.sizeOf9 rfl rfl (r4_4.at H.zin) (fun _ => rfl) z16_12 c11.1 (by rw [ez16_12]; exact gel_some c11) rfl fun a v16 A16 h => ?_
    refine st1 h rfl rfl rfl (v_loadAt1 rfl A16 Tryd.isAgg9 rfl) fun a h => ?_
    refine st1 h rfl rfl rfl (v_assign rfl) fun a h => ?_
    refine c_nil hK ?_
    have h := h.only [2] (l' := [(2, _)]) rfl
    obtain rfl := so hS
    refine c_ret (hret0 _ _ (out1 h rfl rfl ?_))
    exact ⟨rfl, H.out⟩

theorem num_Parse_ok {x0 : List UInt8} {res : Int × Bool} {w0 : World} (hS : num_Parse x0 = some res) : Calls Tryd.prog 29 [S x0].toArray w0 (Ret fun v w => v = .tuple #[.int .i64 res.1, .bool res.2] ∧ Ext w0 w) := by
  refine enter Tryd.func29 rfl rfl rfl fun Q a h hret0 hnor => ?_
  obtain ⟨Zi, Z, H⟩ : ∃ Zi Z, HZ w0 Zi Z [] w0 := ⟨_, _, HZ.start w0⟩
  have h := h.only [0] (l' := [(0, _)]) rfl
  unfold num_Parse at hS
  refine c_region fun K hK => ?_
  refine st1 h rfl rfl rfl (v_assign rfl) fun a h => ?_
  refine st1 h rfl rfl rfl (v_assign rfl) fun a h => ?_
  refine c_nil hK ?_
  refine c_region fun K hK => ?_
  refine st1 h rfl rfl rfl (v_assign rfl) fun a h => ?_
  refine st1 h rfl rfl rfl (v_assign rfl) fun a h => ?_
  refine st1 h rfl rfl rfl (v_assign rfl) fun a h => ?_
  refine c_nil hK ?_
  obtain ⟨J2, eJ2, hS⟩ := bv hS
  refine c_seq (fun a w => ∃ (Z : FZ) (s2 : Int × Int × Int), J2 s2 = some res ∧ Fr 87 [(4, .int .u64 s2.1), (5, .int .i64 s2.2.1), (6, .int .i64 s2.2.2)] a ∧ HZ w0 Zi Z [] w) ?_ fun Q1 hN1 hO1 => ?_
  · rintro a w ⟨Z, s2, hS, h, H⟩
    subst eJ2
    obtain ⟨J4, eJ4, hS⟩ := bv hS
    refine c_seq (fun a w => ∃ (Z : FZ) (s4 : Int), J4 s4 = some res ∧ Fr 87 [(4, .int .u64 s4), (5, .int .i64 s2.2.1), (6, .int .i64 s2.2.2)] a ∧ HZ w0 Zi Z [] w) ?_ fun Q3 hN3 hO3 => ?_
    · rintro a w ⟨Z, s4, hS, h, H⟩
      subst eJ4
      refine c_seq _ (fun a w c => c) fun Q5 hN5 hO5 => ?_
      have hret5 := hO5.ret hret0
      refine c_region fun K hK => ?_
      refine st1 h rfl rfl rfl (v_move rfl) fun a h => ?_
      obtain ⟨z78_6, ez78_6, hS⟩ := bv hS
      refine st1 h rfl rfl rfl (vB ez78_6 (v_eq rfl rfl)) fun a h => ?_
      refine st1 h rfl rfl rfl (v_move rfl) fun a h => ?_
      refine st_g h rfl rfl (gF rfl) rfl rfl (fun e0 => v_move rfl) fun a h => ?_
      obtain ⟨z81_7, ez81_7, hS⟩ := bv hS
      refine st_g h rfl rfl (gF rfl) rfl rfl (fun e0 => vB ez81_7 (v_eq (eg e0 rfl) rfl)) fun a h => ?_
      obtain ⟨z82_8, ez82_8, hS⟩ := bv hS
      refine st1 h rfl rfl rfl (vB ez82_8 (v_or rfl rfl)) fun a h => ?_
      refine c_nil hK ?_
      have h := h.only [4, 82] (l' := [(4, _), (82, _)]) rfl
      refine c_cond h rfl (fun ec9 => ?_) (fun ec9 => ?_)
      · have hS := ifT ec9 hS
        refine c_region fun K hK => ?_
        refine st1 h rfl rfl rfl (v_assign rfl) fun a h => ?_
        refine st1 h rfl rfl rfl (v_assign rfl) fun a h => ?_
        refine c_nil hK ?_
        obtain rfl := so hS
        refine c_ret (hret5 _ _ (out2 h rfl rfl rfl ?_))
        exact ⟨rfl, H.out⟩
      · have hS := ifF ec9 hS
        refine c_skip ?_
        refine hN5 _ _ ?_
        refine c_region fun K hK => ?_
        refine st1 h rfl rfl rfl (v_move rfl) fun a h => ?_
        obtain ⟨y84_10, hy84_10, hS⟩ := bo hS
        refine st2v (T := Ext) (V := .tuple #[.int .i64 y84_10.1, .bool y84_10.2]) h rfl rfl rfl (d_call [_, _] rfl Tryd.call33 (num_signed_ok (x0 := s4) (x1 := false) hy84_10)) fun w X a h => ?_
        have H := H.ext X
        refine st1 h rfl rfl rfl (v_extract rfl rfl) fun a h => ?_
        refine st1 h rfl rfl rfl (v_extract rfl rfl) fun a h => ?_
        refine st1 h rfl rfl rfl (v_assign rfl) fun a h => ?_
        refine st1 h rfl rfl rfl (v_assign rfl) fun a h => ?_
        refine c_nil hK ?_
        have h := h.only [2, 3] (l' := [(2, _), (3, _)]) rfl
        obtain rfl := so hS
        refine c_ret (hret0 _ _ (out2 h rfl rfl rfl ?_))
        exact ⟨rfl, H.out⟩
    · have hret3 := hO3.ret hret0
      refine c_region fun K hK => ?_
      refine st1 h rfl rfl rfl (v_move rfl) fun a h => ?_
      obtain ⟨z64_11, ez64_11, hS⟩ := bv hS
      refine st1 h rfl rfl rfl (vI ez64_11 (v_max Tryd.underlying3 rfl rfl)) fun a h => ?_
      refine st1 h rfl rfl rfl (v_assign rfl) fun a h => ?_
      refine c_nil hK ?_
      refine c_lblock fun Q12 hN12 hx3_12 hO12 => ?_
      have hret12 := hO12.ret hret3
      obtain ⟨B13, eB13, hS⟩ := bv hS
      refine c_loopN (fun mu_ a w => ∃ (Z : FZ) (s13 : Int × Int), loopF B13 mu_ s13 = some res ∧ Fr 87 [(4, .int .u64 s13.1), (5, .int .i64 s2.2.1), (6, .int .i64 s2.2.2), (12, .int .i64 s13.2)] a ∧ HZ w0 Zi Z [] w) KK ⟨_, (s2.1, z64_11), hS, (h.only [4, 5, 6, 12] (l' := [(4, _), (5, _), (6, _), (12, _)]) rfl), H⟩ ?_
      rintro mu_ a w ⟨Z, s13, hS, h, H⟩ Q14 hN14 hO14
      obtain ⟨mu_, rfl, n13, en13, hS⟩ := lpX eB13 hS
      have hret14 := hO14.ret hret12
      have hx3_14 := hO14.exit (i := 3) rfl hx3_12
      refine c_seq _ (fun a w c => c) fun Q15 hN15 hO15 => ?_
      have hret15 := hO15.ret hret14
      have hx3_15 := hO15.exit (i := 3) rfl hx3_14
      refine c_region fun K hK => ?_
      refine st1 h rfl rfl rfl (v_move rfl) fun a h => ?_
      obtain ⟨z66_16, ez66_16, hS⟩ := bv hS
      refine st1 h rfl rfl rfl (vB ez66_16 (v_lt rfl rfl)) fun a h => ?_
      refine c_nil hK ?_
      refine c_cond h rfl (fun ec17 => ?_) (fun ec17 => ?_)
      · have hS := ifT ec17 hS
        refine c_skip ?_
        refine hN15 _ _ ?_
        refine c_block _ (fun a w c => c) fun Q18 hN18 hx4_18 hO18 => ?_
        have hret18 := hO18.ret hret14
        have hx3_18 := hO18.exit (i := 3) rfl hx3_14
        refine c_region fun K hK => ?_
        refine st1 h rfl rfl rfl (v_move rfl) fun a h => ?_
        obtain ⟨c20, hS⟩ := ck hS
        obtain ⟨z71_21, ez71_21, hS⟩ := bv hS
        refine st2v (T := Ext) (V := .tuple #[.int .u64 z71_21.1, .int .u64 z71_21.2]) h rfl rfl rfl ((by rw [ez71_21]; exact d_call [_, _] rfl Tryd.call37 (lib_mul64 c20))) fun w X a h => ?_
        have H := H.ext X
        refine st1 h rfl rfl rfl (v_move rfl) fun a h => ?_
        refine st1 h rfl rfl rfl (v_extract rfl rfl) fun a h => ?_
        refine st1 h rfl rfl rfl (v_extract rfl rfl) fun a h => ?_
        refine st1 h rfl rfl rfl (v_assign rfl) fun a h => ?_
        refine st1 h rfl rfl rfl (v_assign rfl) fun a h => ?_
        refine c_nil hK ?_
        have h := h.only [5, 6, 12, 13, 14] (l' := [(5, _), (6, _), (12, _), (13, _), (14, _)]) rfl
        refine c_seq _ (fun a w c => c) fun Q22 hN22 hO22 => ?_
        have hret22 := hO22.ret hret18
        have hx3_22 := hO22.exit (i := 3) rfl hx3_18
        have hx4_22 := hO22.exit (i := 4) rfl hx4_18
        refine c_region fun K hK => ?_
        refine st1 h rfl rfl rfl (v_move rfl) fun a h => ?_
        obtain ⟨z75_23, ez75_23, hS⟩ := bv hS
        refine st1 h rfl rfl rfl (vB ez75_23 (v_gt rfl rfl)) fun a h => ?_
        refine c_nil hK ?_
        refine c_cond h rfl (fun ec24 => ?_) (fun ec24 => ?_)
        · have hS := ifT ec24 hS
          refine c_region fun K hK => ?_
          refine st1 h rfl rfl rfl (v_assign rfl) fun a h => ?_
          refine st1 h rfl rfl rfl (v_assign rfl) fun a h => ?_
          refine c_nil hK ?_
          have h := h.only [2, 3] (l' := [(2, _), (3, _)]) rfl
          obtain rfl := so hS
          refine c_ret (hret22 _ _ (out2 h rfl rfl rfl ?_))
          exact ⟨rfl, H.out⟩
        · have hS := ifF ec24 hS
          refine c_skip ?_
          refine hN22 _ _ ?_
          refine c_lregion ?_
          refine st1 h rfl rfl rfl (v_move rfl) fun a h => ?_
          refine st1 h rfl rfl rfl (v_assign rfl) fun a h => ?_
          refine c_lnil ?_
          refine hN18 _ _ ?_
          have h := h.only [4, 5, 6, 12] (l' := [(4, _), (5, _), (6, _), (12, _)]) rfl
          refine c_lregion ?_
          refine st1 h rfl rfl rfl (v_move rfl) fun a h => ?_
          obtain ⟨z68_25, ez68_25, hS⟩ := bv hS
          refine st1 h rfl rfl rfl (vI ez68_25 (v_addw rfl rfl)) fun a h => ?_
          refine st1 h rfl rfl rfl (v_assign rfl) fun a h => ?_
          refine c_lnil ?_
          exact hN14 _ _ _ (Nat.lt_succ_self _) ⟨_, (z71_21.2, z68_25), lpN en13 hS, (h.only [4, 5, 6, 12] (l' := [(4, _), (5, _), (6, _), (12, _)]) rfl), H⟩
      · have hS := ifF ec17 hS
        refine c_exit ?_
        refine hx3_15 _ _ ?_
        exact hN3 _ _ ⟨_, s13.1, hS, (h.only [4, 5, 6] (l' := [(4, _), (5, _), (6, _)]) rfl), H⟩
  · have hret1 := hO1.ret hret0
    refine c_region fun K hK => ?_
    refine st1 h rfl rfl rfl (v_move rfl) fun a h => ?_
    refine z_range h H Tryd.underlying9 rfl rfl fun a p16_26 w X H h => ?_
    have H : HZ w0 _ _ [_] _ := H
    refine c_nil hK ?_
    have h := h.only [4, 5, 6, 16] (l' := [(4, _), (5, _), (6, _), (16, _)]) rfl
    refine c_lblock fun Q27 hN27 hx0_27 hO27 => ?_
    have hret27 := hO27.ret hret1
    obtain ⟨B28, eB28, hS⟩ := bv hS
    refine c_loopN (fun mu_ a w => ∃ (Z : FZ) (s28 : Int × Int × Int × Nat), loopF B28 mu_ s28 = some res ∧ Fr 87 [(4, .int .u64 s28.1), (5, .int .i64 s28.2.1), (6, .int .i64 s28.2.2.1), (16, .pointer (some ⟨p16_26, 0, none⟩))] a ∧ HZ w0 Zi Z [.blk p16_26 (.stringIter ⟨(x0 : List UInt8).toArray⟩ (s28.2.2.2))] w) KK ⟨_, (0, (-1), 0, 0), hS, (h.only [4, 5, 6, 16] (l' := [(4, _), (5, _), (6, _), (16, _)]) rfl), H⟩ ?_
    rintro mu_ a w ⟨Z, s28, hS, h, H⟩ Q29 hN29 hO29
    obtain ⟨mu_, rfl, n28, en28, hS⟩ := lpX eB28 hS
    have hret29 := hO29.ret hret27
    have hx0_29 := hO29.exit (i := 0) rfl hx0_27
    refine c_region fun K hK => ?_
    refine z_next h H 0 rfl rfl rfl (hl' := [_]) rfl fun a w H h => ?_
    obtain ⟨z18_30, ez18_30, hS⟩ := bv hS
    refine st1 h rfl rfl rfl (vB ez18_30 (v_next0 rfl)) fun a h => ?_
    refine c_nil hK ?_
    refine c_seq _ (fun a w c => c) fun Q31 hN31 hO31 => ?_
    have hret31 := hO31.ret hret29
    have hx0_31 := hO31.exit (i := 0) rfl hx0_29
    refine c_cond h rfl (fun ec32 => ?_) (fun ec32 => ?_)
    · have hS := ifT ec32 hS
      refine c_skip ?_
      refine hN31 _ _ ?_
      refine c_lblock fun Q33 hN33 hx1_33 hO33 => ?_
      have hret33 := hO33.ret hret29
      have hx0_33 := hO33.exit (i := 0) rfl hx0_29
      refine c_region fun K hK => ?_
      refine st1 h rfl rfl rfl (v_next2 (nlt ez18_30 ec32) rfl) fun a h => ?_
      refine st1 h rfl rfl rfl (v_assign rfl) fun a h => ?_
      refine c_nil hK ?_
      obtain ⟨J35, eJ35, hS⟩ := bv hS
      refine c_block (fun a w => ∃ (Z : FZ) (s35 : Int), J35 s35 = some res ∧ Fr 87 [(4, .int .u64 s28.1), (5, .int .i64 s35), (6, .int .i64 s28.2.2.1), (8, .int .i32 (rn x0 s28.2.2.2)), (16, .pointer (some ⟨p16_26, 0, none⟩))] a ∧ HZ w0 Zi Z [.blk p16_26 (.stringIter ⟨(x0 : List UInt8).toArray⟩ (nextP x0 s28.2.2.2))] w) ?_ fun Q34 hN34 hx2_34 hO34 => ?_
      · rintro a w ⟨Z, s35, hS, h, H⟩
        subst eJ35
        refine c_region fun K hK => ?_
        refine st1 h rfl rfl rfl (v_move rfl) fun a h => ?_
        obtain ⟨c37, hS⟩ := ck hS
        obtain ⟨z45_38, ez45_38, hS⟩ := bv hS
        refine st2v (T := Ext) (V := .tuple #[.int .u64 z45_38.1, .int .u64 z45_38.2]) h rfl rfl rfl ((by rw [ez45_38]; exact d_call [_, _] rfl Tryd.call37 (lib_mul64 c37))) fun w X a h => ?_
        have H := H.ext X
        refine st1 h rfl rfl rfl (v_move rfl) fun a h => ?_
        refine st1 h rfl rfl rfl (v_extract rfl rfl) fun a h => ?_
        refine st1 h rfl rfl rfl (v_extract rfl rfl) fun a h => ?_
        refine st1 h rfl rfl rfl (v_assign rfl) fun a h => ?_
        refine st1 h rfl rfl rfl (v_assign rfl) fun a h => ?_
        refine c_nil hK ?_
        have h := h.only [5, 6, 8, 9, 10, 16] (l' := [(5, _), (6, _), (8, _), (9, _), (10, _), (16, _)]) rfl
        refine c_region fun K hK => ?_
        refine st1 h rfl rfl rfl (v_move rfl) fun a h => ?_
        refine st1 h rfl rfl rfl (v_move rfl) fun a h => ?_
        obtain ⟨z51_39, ez51_39, hS⟩ := bv hS
        refine st1 h rfl rfl rfl (vI ez51_39 (v_subw rfl rfl)) fun a h => ?_
        obtain ⟨z52_40, ez52_40, hS⟩ := bv hS
        refine st1 h rfl rfl rfl (vI ez52_40 (v_convInt (by rw [Tryd.underlying21]; rfl) Tryd.underlying51 rfl rfl)) fun a h => ?_
        obtain ⟨c42, hS⟩ := ck hS
        obtain ⟨z53_43, ez53_43, hS⟩ := bv hS
        refine st1 (V := .tuple #[.int .u64 z53_43.1, .int .u64 z53_43.2]) h rfl rfl rfl (by rw [ez53_43]; exact v_add64 rfl rfl rfl c42) fun a h => ?_
        refine st1 h rfl rfl rfl (v_move rfl) fun a h => ?_
        refine st1 h rfl rfl rfl (v_extract rfl rfl) fun a h => ?_
        refine st1 h rfl rfl rfl (v_extract rfl rfl) fun a h => ?_
        refine st1 h rfl rfl rfl (v_assign rfl) fun a h => ?_
        refine st1 h rfl rfl rfl (v_assign rfl) fun a h => ?_
        refine c_nil hK ?_
        have h := h.only [5, 6, 9, 10, 11, 16] (l' := [(5, _), (6, _), (9, _), (10, _), (11, _), (16, _)]) rfl
        refine c_seq _ (fun a w c => c) fun Q44 hN44 hO44 => ?_
        have hret44 := hO44.ret hret33
        have hx0_44 := hO44.exit (i := 0) rfl hx0_33
        have hx1_44 := hO44.exit (i := 1) rfl hx1_33
        refine c_region fun K hK => ?_
        refine st1 h rfl rfl rfl (v_move rfl) fun a h => ?_
        refine st1 h rfl rfl rfl (v_move rfl) fun a h => ?_
        obtain ⟨z58_45, ez58_45, hS⟩ := bv hS
        refine st1 h rfl rfl rfl (vI ez58_45 (v_addw rfl rfl)) fun a h => ?_
        obtain ⟨z59_46, ez59_46, hS⟩ := bv hS
        refine st1 h rfl rfl rfl (vB ez59_46 (v_gt rfl rfl)) fun a h => ?_
        refine c_nil hK ?_
        have h := h.only [5, 6, 10, 16, 59] (l' := [(5, _), (6, _), (10, _), (16, _), (59, _)]) rfl
        refine c_cond h rfl (fun ec47 => ?_) (fun ec47 => ?_)
        · have hS := ifT ec47 hS
          refine c_region fun K hK => ?_
          refine st1 h rfl rfl rfl (v_assign rfl) fun a h => ?_
          refine st1 h rfl rfl rfl (v_assign rfl) fun a h => ?_
          refine c_nil hK ?_
          have h := h.only [2, 3] (l' := [(2, _), (3, _)]) rfl
          obtain rfl := so hS
          refine c_ret (hret44 _ _ (out2 h rfl rfl rfl ?_))
          exact ⟨rfl, H.out⟩
        · have hS := ifF ec47 hS
          refine c_skip ?_
          refine hN44 _ _ ?_
          refine c_region fun K hK => ?_
          refine st1 h rfl rfl rfl (v_move rfl) fun a h => ?_
          refine st1 h rfl rfl rfl (v_assign rfl) fun a h => ?_
          refine c_nil hK ?_
          refine c_lregion ?_
          refine st1 h rfl rfl rfl (v_move rfl) fun a h => ?_
          obtain ⟨z62_48, ez62_48, hS⟩ := bv hS
          refine st1 h rfl rfl rfl (vI ez62_48 (v_addw rfl rfl)) fun a h => ?_
          refine st1 h rfl rfl rfl (v_assign rfl) fun a h => ?_
          refine c_lnil ?_
          refine hN33 _ _ ?_
          exact hN29 _ _ _ (Nat.lt_succ_self _) ⟨_, (z53_43.1, s35, z62_48, nextP x0 s28.2.2.2), lpN en28 hS, (h.only [4, 5, 6, 16] (l' := [(4, _), (5, _), (6, _), (16, _)]) rfl), H⟩
      · have hret34 := hO34.ret hret33
        have hx0_34 := hO34.exit (i := 0) rfl hx0_33
        have hx1_34 := hO34.exit (i := 1) rfl hx1_33
        refine c_region fun K hK => ?_
        refine st1 h rfl rfl rfl (v_move rfl) fun a h => ?_
        obtain ⟨z22_49, ez22_49, hS⟩ := bv hS
        refine st1 h rfl rfl rfl (vB ez22_49 (v_eq rfl rfl)) fun a h => ?_
        refine st1 h rfl rfl rfl (v_move rfl) fun a h => ?_
        refine st_g h rfl rfl (gT rfl) rfl rfl (fun e0 => v_move rfl) fun a h => ?_
        obtain ⟨z25_50, ez25_50, hS⟩ := bv hS
        refine st_g h rfl rfl (gT rfl) rfl rfl (fun e0 => vB ez25_50 (v_lt (eg e0 rfl) rfl)) fun a h => ?_
        obtain ⟨z26_51, ez26_51, hS⟩ := bv hS
        refine st1 h rfl rfl rfl (vB ez26_51 (v_and rfl rfl)) fun a h => ?_
        refine st1 h rfl rfl rfl (v_assign rfl) fun a h => ?_
        refine c_nil hK ?_
        have h := h.only [4, 5, 6, 8, 16, 20] (l' := [(4, _), (5, _), (6, _), (8, _), (16, _), (20, _)]) rfl
        refine c_cond h rfl (fun ec52 => ?_) (fun ec52 => ?_)
        · have hS := ifT ec52 hS
          refine c_region fun K hK => ?_
          refine st1 h rfl rfl rfl (v_assign rfl) fun a h => ?_
          refine c_nil hK ?_
          refine c_exit ?_
          refine hx1_34 _ _ ?_
          exact hN29 _ _ _ (Nat.lt_succ_self _) ⟨_, (s28.1, 0, s28.2.2.1, nextP x0 s28.2.2.2), lpN en28 hS, (h.only [4, 5, 6, 16] (l' := [(4, _), (5, _), (6, _), (16, _)]) rfl), H⟩
        · have hS := ifF ec52 hS
          refine c_region fun K hK => ?_
          refine st1 h rfl rfl rfl (v_move rfl) fun a h => ?_
          obtain ⟨z29_53, ez29_53, hS⟩ := bv hS
          refine st1 h rfl rfl rfl (vB ez29_53 (v_lt rfl rfl)) fun a h => ?_
          refine st1 h rfl rfl rfl (v_move rfl) fun a h => ?_
          refine st_g h rfl rfl (gF rfl) rfl rfl (fun e0 => v_move rfl) fun a h => ?_
          obtain ⟨z32_54, ez32_54, hS⟩ := bv hS
          refine st_g h rfl rfl (gF rfl) rfl rfl (fun e0 => vB ez32_54 (v_gt (eg e0 rfl) rfl)) fun a h => ?_
          obtain ⟨z33_55, ez33_55, hS⟩ := bv hS
          refine st1 h rfl rfl rfl (vB ez33_55 (v_or rfl rfl)) fun a h => ?_
          refine st1 h rfl rfl rfl (v_move rfl) fun a h => ?_
          refine st_g h rfl rfl (gF rfl) rfl rfl (fun e0 => v_move rfl) fun a h => ?_
          obtain ⟨z36_56, ez36_56, hS⟩ := bv hS
          refine st_g h rfl rfl (gF rfl) rfl rfl (fun e0 => vB ez36_56 (v_eq (eg e0 rfl) rfl)) fun a h => ?_
          obtain ⟨z37_57, ez37_57, hS⟩ := bv hS
          refine st1 h rfl rfl rfl (vB ez37_57 (v_or rfl rfl)) fun a h => ?_
          refine st1 h rfl rfl rfl (v_assign rfl) fun a h => ?_
          refine c_nil hK ?_
          have h := h.only [4, 5, 6, 8, 16, 27] (l' := [(4, _), (5, _), (6, _), (8, _), (16, _), (27, _)]) rfl
          refine c_cond h rfl (fun ec58 => ?_) (fun ec58 => ?_)
          · have hS := ifT ec58 hS
            refine c_region fun K hK => ?_
            refine st1 h rfl rfl rfl (v_assign rfl) fun a h => ?_
            refine st1 h rfl rfl rfl (v_assign rfl) fun a h => ?_
            refine c_nil hK ?_
            have h := h.only [2, 3] (l' := [(2, _), (3, _)]) rfl
            obtain rfl := so hS
            refine c_ret (hret34 _ _ (out2 h rfl rfl rfl ?_))
            exact ⟨rfl, H.out⟩
          · have hS := ifF ec58 hS
            refine c_region fun K hK => ?_
            refine st1 h rfl rfl rfl (v_move rfl) fun a h => ?_
            obtain ⟨z40_59, ez40_59, hS⟩ := bv hS
            refine st1 h rfl rfl rfl (vB ez40_59 (v_ge rfl rfl)) fun a h => ?_
            refine st1 h rfl rfl rfl (v_assign rfl) fun a h => ?_
            refine c_nil hK ?_
            refine c_cond h rfl (fun ec60 => ?_) (fun ec60 => ?_)
            · have hS := ifT ec60 hS
              refine c_lregion ?_
              refine st1 h rfl rfl rfl (v_move rfl) fun a h => ?_
              obtain ⟨z42_61, ez42_61, hS⟩ := bv hS
              refine st1 h rfl rfl rfl (vI ez42_61 (v_addw rfl rfl)) fun a h => ?_
              refine st1 h rfl rfl rfl (v_assign rfl) fun a h => ?_
              refine c_lnil ?_
              exact hN34 _ _ ⟨_, z42_61, hS, (h.only [4, 5, 6, 8, 16] (l' := [(4, _), (5, _), (6, _), (8, _), (16, _)]) rfl), H⟩
            · have hS := ifF ec60 hS
              refine c_skip ?_
              exact hN34 _ _ ⟨_, s28.2.1, hS, (h.only [4, 5, 6, 8, 16] (l' := [(4, _), (5, _), (6, _), (8, _), (16, _)]) rfl), H⟩
    · have hS := ifF ec32 hS
      refine c_exit ?_
      refine hx0_31 _ _ ?_
      exact hN1 _ _ ⟨_, (s28.1, s28.2.1, s28.2.2.1), hS, (h.only [4, 5, 6] (l' := [(4, _), (5, _), (6, _)]) rfl), (H.keepN 0 rfl)⟩

theorem value_ToNum_ok {x0 : V} {res : V} {w0 : World} (hS : value_ToNum x0 = some res) : Calls Tryd.prog 13 [.agg #[.int .i64 x0.k, .int .i64 x0.n, S x0.s]].toArray w0 (Ret fun v w => v = .agg #[.int .i64 res.k, .int .i64 res.n, S res.s] ∧ Ext w0 w) := by
  refine enter Tryd.func13 rfl rfl rfl fun Q a h hret0 hnor => ?_
  obtain ⟨Zi, Z, H⟩ : ∃ Zi Z, HZ w0 Zi Z [] w0 := ⟨_, _, HZ.start w0⟩
  have h := h.only [0] (l' := [(0, _)]) rfl
  unfold value_ToNum at hS
  refine c_region fun K hK => ?_
  refine z_box h H rfl [_, _, _] rfl rfl fun a p1_1 w X H h => ?_
  have H : HZ w0 _ _ [_] _ := H
  refine z_alloc h H Tryd.zeroValue23 [_, _, _] rfl rfl fun a p2_2 w X H h => ?_
  have H : HZ w0 _ _ [_, _] _ := H
  refine c_nil hK ?_
  refine c_seq _ (fun a w c => c) fun Q3 hN3 hO3 => ?_
  have hret3 := hO3.ret hret0
  refine c_region fun K hK => ?_
  refine st1 h rfl rfl rfl (v_fieldAddr rfl Tryd.underlying23 rfl Tryd.sizeOf3 rfl rfl) fun a h => ?_
  refine st1 h rfl rfl rfl (v_load1 rfl Tryd.isAgg3 (H.hp.get 0 rfl) rfl) fun a h => ?_
  refine c_nil hK ?_
  refine c_lblock fun Q4 hN4 hx0_4 hO4 => ?_
  have hret4 := hO4.ret hret3
  obtain ⟨J6, eJ6, hS⟩ := bv hS
  refine c_seq (fun a w => ∃ (Z : FZ) (s6 : Bool), J6 s6 = some res ∧ Fr 41 [(1, .pointer (some ⟨p1_1, 0, none⟩)), (2, .pointer (some ⟨p2_2, 0, none⟩)), (8, .int .i64 x0.k), (9, .bool s6)] a ∧ HZ w0 Zi Z [.blk p1_1 (Cel [.int .i64 x0.k, .int .i64 x0.n, S x0.s] 23), .blk p2_2 (Cel [.int .i64 0, .int .i64 0, S []] 23)] w) ?_ fun Q5 hN5 hO5 => ?_
  · rintro a w ⟨Z, s6, hS, h, H⟩
    subst eJ6
    refine c_cond h rfl (fun ec7 => ?_) (fun ec7 => ?_)
    · have hS := ifT ec7 hS
      refine c_region fun K hK => ?_
      refine st1 h rfl rfl rfl (v_loadA [_, _, _] rfl Tryd.isAgg23 Tryd.sizeOf23 (H.hp.get 0 rfl) rfl rfl) fun a h => ?_
      refine z_store h H 1 rfl rfl rfl Tryd.sizeOf23 [_, _, _] rfl rfl rfl (by simp) [_, _, _] rfl (hl' := [_, _]) rfl fun w H => ?_
      refine c_nil hK ?_
      have h := h.only [2] (l' := [(2, _)]) rfl
      obtain rfl := so hS
      refine c_ret (hret4 _ _ (out1 h rfl ⟨_, rfl, run_loadVar_agg (vs := [_, _, _]) Tryd.isAgg23 Tryd.sizeOf23 (H.hp.get 1 rfl) rfl rfl⟩ ?_))
      exact ⟨rfl, H.out⟩
    · have hS := ifF ec7 hS
      refine c_region fun K hK => ?_
      obtain ⟨z14_8, ez14_8, hS⟩ := bv hS
      refine st1 h rfl rfl rfl (vB ez14_8 (v_eq rfl rfl)) fun a h => ?_
      refine st1 h rfl rfl rfl (v_assign rfl) fun a h => ?_
      refine c_nil hK ?_
      refine c_cond h rfl (fun ec9 => ?_) (fun ec9 => ?_)
      · have hS := ifT ec9 hS
        refine c_region fun K hK => ?_
        obtain ⟨y15_10, hy15_10, hS⟩ := bo hS
        refine st2v (T := Ext) (V := .agg #[.int .i64 y15_10.k, .int .i64 y15_10.n, S y15_10.s]) h rfl rfl rfl (d_call [_] rfl Tryd.call21 (value_Num_ok (x0 := (0 : Int)) hy15_10)) fun w X a h => ?_
        have H := H.ext X
        refine z_store h H 1 rfl rfl rfl Tryd.sizeOf23 [_, _, _] rfl rfl rfl (by simp) [_, _, _] rfl (hl' := [_, _]) rfl fun w H => ?_
        refine c_nil hK ?_
        have h := h.only [2] (l' := [(2, _)]) rfl
        obtain rfl := so hS
        refine c_ret (hret4 _ _ (out1 h rfl ⟨_, rfl, run_loadVar_agg (vs := [_, _, _]) Tryd.isAgg23 Tryd.sizeOf23 (H.hp.get 1 rfl) rfl rfl⟩ ?_))
        exact ⟨rfl, H.out⟩
      · have hS := ifF ec9 hS
        refine c_region fun K hK => ?_
        obtain ⟨z17_11, ez17_11, hS⟩ := bv hS
        refine st1 h rfl rfl rfl (vB ez17_11 (v_eq rfl rfl)) fun a h => ?_
        refine st1 h rfl rfl rfl (v_assign rfl) fun a h => ?_
        refine c_nil hK ?_
        have h := h.only [1, 2, 16] (l' := [(1, _), (2, _), (16, _)]) rfl
        refine c_cond h rfl (fun ec12 => ?_) (fun ec12 => ?_)
        · have hS := ifT ec12 hS
          refine c_region fun K hK => ?_
          refine st1 h rfl rfl rfl (v_fieldAddr rfl Tryd.underlying23 rfl Tryd.sizeOf2 rfl rfl) fun a h => ?_
          refine st1 h rfl rfl rfl (v_load1 rfl Tryd.isAgg2 (H.hp.get 0 rfl) rfl) fun a h => ?_
          obtain ⟨z20_13, ez20_13, hS⟩ := bv hS
          refine st1 h rfl rfl rfl (vI ez20_13 (v_mulw rfl rfl)) fun a h => ?_
          obtain ⟨y21_14, hy21_14, hS⟩ := bo hS
          refine st2v (T := Ext) (V := .agg #[.int .i64 y21_14.k, .int .i64 y21_14.n, S y21_14.s]) h rfl rfl rfl (d_call [_] rfl Tryd.call21 (value_Num_ok (x0 := z20_13) hy21_14)) fun w X a h => ?_
          have H := H.ext X
          refine z_store h H 1 rfl rfl rfl Tryd.sizeOf23 [_, _, _] rfl rfl rfl (by simp) [_, _, _] rfl (hl' := [_, _]) rfl fun w H => ?_
          refine c_nil hK ?_
          have h := h.only [2] (l' := [(2, _)]) rfl
          obtain rfl := so hS
          refine c_ret (hret4 _ _ (out1 h rfl ⟨_, rfl, run_loadVar_agg (vs := [_, _, _]) Tryd.isAgg23 Tryd.sizeOf23 (H.hp.get 1 rfl) rfl rfl⟩ ?_))
          exact ⟨rfl, H.out⟩
        · have hS := ifF ec12 hS
          refine c_skip ?_
          refine hN4 _ _ ?_
          refine hN3 _ _ ?_
          refine c_region fun K hK => ?_
          refine st1 h rfl rfl rfl (v_fieldAddr rfl Tryd.underlying23 rfl Tryd.sizeOf9 rfl rfl) fun a h => ?_
          refine st1 h rfl rfl rfl (v_load1 rfl Tryd.isAgg9 (H.hp.get 0 rfl) rfl) fun a h => ?_
          obtain ⟨z25_16, ez25_16, hS⟩ := bv hS
          refine st2v (T := Ext) (V := .tuple #[S z25_16.1, .bool z25_16.2]) h rfl rfl rfl ((by rw [ez25_16]; exact d_call [_, _] rfl Tryd.call28 (lib_cutPrefix))) fun w X a h => ?_
          have H := H.ext X
          refine st1 h rfl rfl rfl (v_move rfl) fun a h => ?_
          refine st1 h rfl rfl rfl (v_extract rfl rfl) fun a h => ?_
          refine st1 h rfl rfl rfl (v_extract rfl rfl) fun a h => ?_
          refine st1 h rfl rfl rfl (v_assign rfl) fun a h => ?_
          refine st1 h rfl rfl rfl (v_assign rfl) fun a h => ?_
          refine c_nil hK ?_
          have h := h.only [2, 3, 4] (l' := [(2, _), (3, _), (4, _)]) rfl
          refine c_region fun K hK => ?_
          refine st1 h rfl rfl rfl (v_move rfl) fun a h => ?_
          obtain ⟨y30_17, hy30_17, hS⟩ := bo hS
          refine st2v (T := Ext) (V := .tuple #[.int .i64 y30_17.1, .bool y30_17.2]) h rfl rfl rfl (d_call [_] rfl Tryd.call29 (num_Parse_ok (x0 := z25_16.1) hy30_17)) fun w X a h => ?_
          have H := H.ext X
          refine st1 h rfl rfl rfl (v_move rfl) fun a h => ?_
          refine st1 h rfl rfl rfl (v_extract rfl rfl) fun a h => ?_
          refine st1 h rfl rfl rfl (v_extract rfl rfl) fun a h => ?_
          refine st1 h rfl rfl rfl (v_assign rfl) fun a h => ?_
          refine st1 h rfl rfl rfl (v_assign rfl) fun a h => ?_
          refine c_nil hK ?_
          have h := h.only [2, 4, 5, 6] (l' := [(2, _), (4, _), (5, _), (6, _)]) rfl
          refine c_seq _ (fun a w c => c) fun Q18 hN18 hO18 => ?_
          have hret18 := hO18.ret hret0
          refine c_region fun K hK => ?_
          refine st1 h rfl rfl rfl (v_move rfl) fun a h => ?_
          obtain ⟨z34_19, ez34_19, hS⟩ := bv hS
          refine st1 h rfl rfl rfl (vB ez34_19 (v_not rfl)) fun a h => ?_
          refine c_nil hK ?_
          refine c_cond h rfl (fun ec20 => ?_) (fun ec20 => ?_)
          · have hS := ifT ec20 hS
            refine c_region fun K hK => ?_
            obtain ⟨y35_21, hy35_21, hS⟩ := bo hS
            refine st2v (T := Ext) (V := .agg #[.int .i64 y35_21.k, .int .i64 y35_21.n, S y35_21.s]) h rfl rfl rfl (d_call [_] rfl Tryd.call14 (value_Fail_ok (x0 := (2 : Int)) hy35_21)) fun w X a h => ?_
            have H := H.ext X
            refine z_store h H 1 rfl rfl rfl Tryd.sizeOf23 [_, _, _] rfl rfl rfl (by simp) [_, _, _] rfl (hl' := [_, _]) rfl fun w H => ?_
            refine c_nil hK ?_
            have h := h.only [2] (l' := [(2, _)]) rfl
            obtain rfl := so hS
            refine c_ret (hret18 _ _ (out1 h rfl ⟨_, rfl, run_loadVar_agg (vs := [_, _, _]) Tryd.isAgg23 Tryd.sizeOf23 (H.hp.get 1 rfl) rfl rfl⟩ ?_))
            exact ⟨rfl, H.out⟩
          · have hS := ifF ec20 hS
            refine c_skip ?_
            refine hN18 _ _ ?_
            obtain ⟨J23, eJ23, hS⟩ := bv hS
            refine c_seq (fun a w => ∃ (Z : FZ) (s23 : Int), J23 s23 = some res ∧ Fr 41 [(2, .pointer (some ⟨p2_2, 0, none⟩)), (5, .int .i64 s23)] a ∧ HZ w0 Zi Z [.blk p1_1 (Cel [.int .i64 x0.k, .int .i64 x0.n, S x0.s] 23), .blk p2_2 (Cel [.int .i64 0, .int .i64 0, S []] 23)] w) ?_ fun Q22 hN22 hO22 => ?_
            · rintro a w ⟨Z, s23, hS, h, H⟩
              subst eJ23
              refine c_region fun K hK => ?_
              refine st1 h rfl rfl rfl (v_move rfl) fun a h => ?_
              obtain ⟨y40_24, hy40_24, hS⟩ := bo hS
              refine st2v (T := Ext) (V := .agg #[.int .i64 y40_24.k, .int .i64 y40_24.n, S y40_24.s]) h rfl rfl rfl (d_call [_] rfl Tryd.call21 (value_Num_ok (x0 := s23) hy40_24)) fun w X a h => ?_
              have H := H.ext X
              refine z_store h H 1 rfl rfl rfl Tryd.sizeOf23 [_, _, _] rfl rfl rfl (by simp) [_, _, _] rfl (hl' := [_, _]) rfl fun w H => ?_
              refine c_nil hK ?_
              obtain rfl := so hS
              refine c_ret (hret0 _ _ (out1 h rfl ⟨_, rfl, run_loadVar_agg (vs := [_, _, _]) Tryd.isAgg23 Tryd.sizeOf23 (H.hp.get 1 rfl) rfl rfl⟩ ?_))
              exact ⟨rfl, H.out⟩
            · have hret22 := hO22.ret hret0
              refine c_region fun K hK => ?_
              refine st1 h rfl rfl rfl (v_move rfl) fun a h => ?_
              refine c_nil hK ?_
              have h := h.only [2, 5, 36] (l' := [(2, _), (5, _), (36, _)]) rfl
              refine c_cond h rfl (fun ec25 => ?_) (fun ec25 => ?_)
              · have hS := ifT ec25 hS
                refine c_lregion ?_
                refine st1 h rfl rfl rfl (v_move rfl) fun a h => ?_
                obtain ⟨z38_26, ez38_26, hS⟩ := bv hS
                refine st1 h rfl rfl rfl (vI ez38_26 (v_negw rfl)) fun a h => ?_
                refine st1 h rfl rfl rfl (v_assign rfl) fun a h => ?_
                refine c_lnil ?_
                exact hN22 _ _ ⟨_, z38_26, hS, (h.only [2, 5] (l' := [(2, _), (5, _)]) rfl), H⟩
              · have hS := ifF ec25 hS
                refine c_skip ?_
                exact hN22 _ _ ⟨_, y30_17.1, hS, (h.only [2, 5] (l' := [(2, _), (5, _)]) rfl), H⟩
  · have hret5 := hO5.ret hret4
    have hx0_5 := hO5.exit (i := 0) rfl hx0_4
    refine c_region fun K hK => ?_
    obtain ⟨z10_27, ez10_27, hS⟩ := bv hS
    refine st1 h rfl rfl rfl (vB ez10_27 (v_eq rfl rfl)) fun a h => ?_
    refine st1 h rfl rfl rfl (v_assign rfl) fun a h => ?_
    refine c_nil hK ?_
    refine c_cond h rfl (fun ec28 => ?_) (fun ec28 => ?_)
    · have hS := ifT ec28 hS
      refine c_skip ?_
      exact hN5 _ _ ⟨_, z10_27, hS, (h.only [1, 2, 8, 9] (l' := [(1, _), (2, _), (8, _), (9, _)]) rfl), H⟩
    · have hS := ifF ec28 hS
      refine c_lregion ?_
      obtain ⟨z11_29, ez11_29, hS⟩ := bv hS
      refine st1 h rfl rfl rfl (vB ez11_29 (v_eq rfl rfl)) fun a h => ?_
      refine st1 h rfl rfl rfl (v_assign rfl) fun a h => ?_
      refine c_lnil ?_
      exact hN5 _ _ ⟨_, z11_29, hS, (h.only [1, 2, 8, 9] (l' := [(1, _), (2, _), (8, _), (9, _)]) rfl), H⟩
end Go.Proofs.YtmfblggkgmgccaaDoor
