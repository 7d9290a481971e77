/- Walks: the code computes what the partial functions say. -/
import Derived.Test.YtmfblggkgmgccaaDoorSpD
import Derived.Test.YtmfblggkgmgccaaDoorWkC
set_option linter.unusedSimpArgs false
set_option linter.unusedVariables false
set_option linter.unusedSectionVars false
namespace Go.Proofs.YtmfblggkgmgccaaDoor
open Go.Stp Go.RowKit Go.ValP Go.Sp
set_option maxRecDepth 100000
theorem funcs_Binary_ok {x0 : Int} {x1 : V} {x2 : V} {res : V} {w0 : World} (hS : funcs_Binary x0 x1 x2 = some res) (hG : GW w0) : Calls Tryd.prog 8 [.int .i64 x0, .agg #[.int .i64 x1.k, .int .i64 x1.n, S x1.s], .agg #[.int .i64 x2.k, .int .i64 x2.n, S x2.s]].toArray w0 (Ret fun v w => v = .agg #[.int .i64 res.k, .int .i64 res.n, S res.s] ∧ Ext w0 w) := by
  refine enter Tryd.func8 rfl rfl rfl fun Q a h hret0 hnor => ?_
  obtain ⟨Zi, Z, H⟩ : ∃ Zi Z, HZ w0 Zi Z [] w0 := ⟨_, _, HZ.start w0⟩
  have h := h.only [0, 1, 2] (l' := [(0, _), (1, _), (2, _)]) rfl
  unfold funcs_Binary at hS
  refine c_region fun K hK => ?_
  refine z_box h H rfl [_, _, _] rfl rfl fun a p4_1 w X H h => ?_
  have H : HZ w0 _ _ [_] _ := H
  refine z_box h H rfl [_, _, _] rfl rfl fun a p5_2 w X H h => ?_
  have H : HZ w0 _ _ [_, _] _ := H
  refine z_alloc h H Tryd.zeroValue23 [_, _, _] rfl rfl fun a p6_3 w X H h => ?_
  have H : HZ w0 _ _ [_, _, _] _ := H
  refine c_nil hK ?_
  refine c_block _ (fun a w c => c) fun Q4 hN4 hx0_4 hO4 => ?_
  have hret4 := hO4.ret hret0
  refine c_region fun K hK => ?_
  refine st1 h rfl rfl rfl (v_move rfl) fun a h => ?_
  obtain ⟨z12_5, ez12_5, hS⟩ := bv hS
  refine st1 h rfl rfl rfl (vB ez12_5 (v_ge rfl rfl)) fun a h => ?_
  refine st1 h rfl rfl rfl (v_assign rfl) fun a h => ?_
  refine c_nil hK ?_
  have h := h.only [0, 4, 5, 6, 10] (l' := [(0, _), (4, _), (5, _), (6, _), (10, _)]) rfl
  refine c_cond h rfl (fun ec6 => ?_) (fun ec6 => ?_)
  · have hS := ifT ec6 hS
    refine c_region fun K hK => ?_
    refine st1 h rfl rfl rfl (v_loadA [_, _, _] rfl Tryd.isAgg23 Tryd.sizeOf23 (H.hp.get 0 rfl) rfl rfl) fun a h => ?_
    refine st1 h rfl rfl rfl (v_loadA [_, _, _] rfl Tryd.isAgg23 Tryd.sizeOf23 (H.hp.get 1 rfl) rfl rfl) fun a h => ?_
    obtain ⟨y15_7, hy15_7, hS⟩ := bo hS
    refine st2v (T := Ext) (V := .int .i64 y15_7) h rfl rfl rfl (d_call [_, _] rfl Tryd.call10 (value_Compare_ok (x0 := x1) (x1 := x2) hy15_7)) fun w X a h => ?_
    have H := H.ext X
    refine st1 h rfl rfl rfl (v_assign rfl) fun a h => ?_
    refine c_nil hK ?_
    have h := h.only [0, 6, 7] (l' := [(0, _), (6, _), (7, _)]) rfl
    refine c_region fun K hK => ?_
    refine st1 h rfl rfl rfl (v_move rfl) fun a h => ?_
    obtain ⟨z17_8, ez17_8, hS⟩ := bv hS
    refine st1 h rfl rfl rfl (vB ez17_8 (v_eq rfl rfl)) fun a h => ?_
    refine st1 h rfl rfl rfl (v_move rfl) fun a h => ?_
    obtain ⟨z19_9, ez19_9, hS⟩ := bv hS
    refine st1 h rfl rfl rfl (vB ez19_9 (v_ne rfl rfl)) fun a h => ?_
    refine st1 h rfl rfl rfl (v_move rfl) fun a h => ?_
    obtain ⟨z21_10, ez21_10, hS⟩ := bv hS
    refine st1 h rfl rfl rfl (vB ez21_10 (v_lt rfl rfl)) fun a h => ?_
    refine st1 h rfl rfl rfl (v_move rfl) fun a h => ?_
    obtain ⟨z23_11, ez23_11, hS⟩ := bv hS
    refine st1 h rfl rfl rfl (vB ez23_11 (v_le rfl rfl)) fun a h => ?_
    refine st1 h rfl rfl rfl (v_move rfl) fun a h => ?_
    obtain ⟨z25_12, ez25_12, hS⟩ := bv hS
    refine st1 h rfl rfl rfl (vB ez25_12 (v_gt rfl rfl)) fun a h => ?_
    refine st1 h rfl rfl rfl (v_move rfl) fun a h => ?_
    obtain ⟨z27_13, ez27_13, hS⟩ := bv hS
    refine st1 h rfl rfl rfl (vB ez27_13 (v_ge rfl rfl)) fun a h => ?_
    refine st1 h rfl rfl rfl (v_build bld42 [_, _, _, _, _, _] [_, _, _, _, _, _] rfl rfl) fun a h => ?_
    refine st1 h rfl rfl rfl (v_move rfl) fun a h => ?_
    obtain ⟨z30_14, ez30_14, hS⟩ := bv hS
    refine st1 h rfl rfl rfl (vI ez30_14 (v_subw rfl rfl)) fun a h => ?_
    obtain ⟨c15, hS⟩ := ck hS
    obtain ⟨z31_16, ez31_16, hS⟩ := bv hS
    refine st1 h rfl rfl rfl (vB ez31_16 (v_idxArrB [z17_8, z19_9, z21_10, z23_11, z25_12, z27_13] Tryd.underlying42 Tryd.sizeOf4 Tryd.isAgg4 rfl rfl rfl c15)) fun a h => ?_
    obtain ⟨y32_17, hy32_17, hS⟩ := bo hS
    refine st2v (T := Ext) (V := .agg #[.int .i64 y32_17.k, .int .i64 y32_17.n, S y32_17.s]) h rfl rfl rfl (d_call [_] rfl Tryd.call9 (value_Bool_ok (x0 := z31_16) hy32_17)) fun w X a h => ?_
    have H := H.ext X
    refine z_store h H 2 rfl rfl rfl Tryd.sizeOf23 [_, _, _] rfl rfl rfl (by simp) [_, _, _] rfl (hl' := [_, _, _]) rfl fun w H => ?_
    refine c_nil hK ?_
    have h := h.only [6] (l' := [(6, _)]) rfl
    obtain rfl := so hS
    refine c_ret (hret4 _ _ (out1 h rfl ⟨_, rfl, run_loadVar_agg (vs := [_, _, _]) Tryd.isAgg23 Tryd.sizeOf23 (H.hp.get 2 rfl) rfl rfl⟩ ?_))
    exact ⟨rfl, H.out⟩
  · have hS := ifF ec6 hS
    refine c_region fun K hK => ?_
    refine st1 h rfl rfl rfl (v_move rfl) fun a h => ?_
    obtain ⟨z35_18, ez35_18, hS⟩ := bv hS
    refine st1 h rfl rfl rfl (vB ez35_18 (v_eq rfl rfl)) fun a h => ?_
    refine st1 h rfl rfl rfl (v_assign rfl) fun a h => ?_
    refine c_nil hK ?_
    refine c_cond h rfl (fun ec19 => ?_) (fun ec19 => ?_)
    · have hS := ifT ec19 hS
      refine c_flowT 6 h (by kernel_rfl) (by kernel_rfl) fun K hK => ?_
      refine f1 [4] rfl rfl rfl rfl (fun w X => have H := H.ext X; v_loadA [_, _, _] rfl Tryd.isAgg23 Tryd.sizeOf23 (H.hp.get 0 rfl) rfl rfl) ?_
      obtain ⟨y37_20, hy37_20, hS⟩ := bo hS
      refine f2 (V := S y37_20) [36] rfl rfl rfl rfl (fun w X => have H := H.ext X; d_call [_] rfl Tryd.call12 (value_Show_ok (x0 := x1) hy37_20 (hG.ext H.out))) ?_
      refine f1 [5] rfl rfl rfl rfl (fun w X => have H := H.ext X; v_loadA [_, _, _] rfl Tryd.isAgg23 Tryd.sizeOf23 (H.hp.get 1 rfl) rfl rfl) ?_
      obtain ⟨y39_21, hy39_21, hS⟩ := bo hS
      refine f2 (V := S y39_21) [38] rfl rfl rfl rfl (fun w X => have H := H.ext X; d_call [_] rfl Tryd.call12 (value_Show_ok (x0 := x2) hy39_21 (hG.ext H.out))) ?_
      obtain ⟨c22, hS⟩ := ck hS
      obtain ⟨z40_23, ez40_23, hS⟩ := bv hS
      refine f1 [37, 39] rfl rfl rfl rfl (fun w X => vS ez40_23 (v_sadd rfl rfl c22)) ?_
      obtain ⟨y41_24, hy41_24, hS⟩ := bo hS
      refine f2 (V := .agg #[.int .i64 y41_24.k, .int .i64 y41_24.n, S y41_24.s]) [40] rfl rfl rfl rfl (fun w X => d_call [_] rfl Tryd.call11 (value_Text_ok (x0 := z40_23) hy41_24)) ?_
      refine fn_ ?_
      intro a w X hR hA
      have h := hR.out [6, 41]
      have h : Fr 97 [(41, _), (6, _)] a := h
      have H := H.ext X
      refine z_store h H 2 rfl rfl rfl Tryd.sizeOf23 [_, _, _] rfl rfl rfl (by simp) [_, _, _] rfl (hl' := [_, _, _]) rfl fun w H => ?_
      refine c_nil hK ?_
      obtain rfl := so hS
      refine c_ret (hret4 _ _ (out1 h rfl ⟨_, rfl, run_loadVar_agg (vs := [_, _, _]) Tryd.isAgg23 Tryd.sizeOf23 (H.hp.get 2 rfl) rfl rfl⟩ ?_))
      exact ⟨rfl, H.out⟩
    · have hS := ifF ec19 hS
      refine c_skip ?_
      refine hN4 _ _ ?_
      have h := h.only [0, 4, 5, 6] (l' := [(0, _), (4, _), (5, _), (6, _)]) rfl
      refine c_flowT 6 h (by kernel_rfl) (by kernel_rfl) fun K hK => ?_
      refine f1 [4] rfl rfl rfl rfl (fun w X => have H := H.ext X; v_loadA [_, _, _] rfl Tryd.isAgg23 Tryd.sizeOf23 (H.hp.get 0 rfl) rfl rfl) ?_
      obtain ⟨y43_25, hy43_25, hS⟩ := bo hS
      refine f2 (V := .agg #[.int .i64 y43_25.k, .int .i64 y43_25.n, S y43_25.s]) [42] rfl rfl rfl rfl (fun w X => d_call [_] rfl Tryd.call13 (value_ToNum_ok (x0 := x1) hy43_25)) ?_
      refine f1 [5] rfl rfl rfl rfl (fun w X => have H := H.ext X; v_loadA [_, _, _] rfl Tryd.isAgg23 Tryd.sizeOf23 (H.hp.get 1 rfl) rfl rfl) ?_
      obtain ⟨y45_26, hy45_26, hS⟩ := bo hS
      refine f2 (V := .agg #[.int .i64 y45_26.k, .int .i64 y45_26.n, S y45_26.s]) [44] rfl rfl rfl rfl (fun w X => d_call [_] rfl Tryd.call13 (value_ToNum_ok (x0 := x2) hy45_26)) ?_
      refine f_alloc Tryd.zeroValue23 [_, _, _] rfl rfl ?_
      refine f_alloc Tryd.zeroValue23 [_, _, _] rfl rfl ?_
      refine fn_ ?_
      intro a w X hR hA
      obtain ⟨_, ⟨p8_27, rfl, hb8⟩, _, ⟨p9_28, rfl, hb9⟩, h⟩ := hR.out [0, 6, 8, 9, 43, 45]
      have h : Fr 97 [(45, _), (43, _), (9, _), (8, _), (6, _), (0, _)] a := h
      have lo8 := hA.lo' h (s := 8) rfl rfl
      have lo9 := hA.lo' h (s := 9) rfl rfl
      have ne_ := hA.ne' h (s := 8) (t := 9) rfl rfl rfl rfl rfl
      have H := H.pushF2 X hb8 lo8 hb9 lo9 ne_
      have H : HZ w0 _ _ [_, _, _, _, _] _ := H
      refine z_store h H 3 rfl rfl rfl Tryd.sizeOf23 [_, _, _] rfl rfl rfl (by simp) [_, _, _] rfl (hl' := [_, _, _, _, _]) rfl fun w H => ?_
      refine z_store h H 4 rfl rfl rfl Tryd.sizeOf23 [_, _, _] rfl rfl rfl (by simp) [_, _, _] rfl (hl' := [_, _, _, _, _]) rfl fun w H => ?_
      refine c_nil hK ?_
      refine c_seq _ (fun a w c => c) fun Q29 hN29 hO29 => ?_
      have hret29 := hO29.ret hret0
      refine c_region fun K hK => ?_
      refine st1 h rfl rfl rfl (v_fieldAddr rfl Tryd.underlying23 rfl Tryd.sizeOf3 rfl rfl) fun a h => ?_
      refine st1 h rfl rfl rfl (v_load1 rfl Tryd.isAgg3 (H.hp.get 3 rfl) rfl) fun a h => ?_
      obtain ⟨z48_30, ez48_30, hS⟩ := bv hS
      refine st1 h rfl rfl rfl (vB ez48_30 (v_eq rfl rfl)) fun a h => ?_
      refine c_nil hK ?_
      have h := h.only [0, 6, 8, 9, 48] (l' := [(0, _), (6, _), (8, _), (9, _), (48, _)]) rfl
      refine c_cond h rfl (fun ec31 => ?_) (fun ec31 => ?_)
      · have hS := ifT ec31 hS
        refine c_region fun K hK => ?_
        refine st1 h rfl rfl rfl (v_loadA [_, _, _] rfl Tryd.isAgg23 Tryd.sizeOf23 (H.hp.get 3 rfl) rfl rfl) fun a h => ?_
        refine z_store h H 2 rfl rfl rfl Tryd.sizeOf23 [_, _, _] rfl rfl rfl (by simp) [_, _, _] rfl (hl' := [_, _, _, _, _]) rfl fun w H => ?_
        refine c_nil hK ?_
        have h := h.only [6] (l' := [(6, _)]) rfl
        obtain rfl := so hS
        refine c_ret (hret29 _ _ (out1 h rfl ⟨_, rfl, run_loadVar_agg (vs := [_, _, _]) Tryd.isAgg23 Tryd.sizeOf23 (H.hp.get 2 rfl) rfl rfl⟩ ?_))
        exact ⟨rfl, H.out⟩
      · have hS := ifF ec31 hS
        refine c_skip ?_
        refine hN29 _ _ ?_
        refine c_seq _ (fun a w c => c) fun Q32 hN32 hO32 => ?_
        have hret32 := hO32.ret hret0
        refine c_region fun K hK => ?_
        refine st1 h rfl rfl rfl (v_fieldAddr rfl Tryd.underlying23 rfl Tryd.sizeOf3 rfl rfl) fun a h => ?_
        refine st1 h rfl rfl rfl (v_load1 rfl Tryd.isAgg3 (H.hp.get 4 rfl) rfl) fun a h => ?_
        obtain ⟨z52_33, ez52_33, hS⟩ := bv hS
        refine st1 h rfl rfl rfl (vB ez52_33 (v_eq rfl rfl)) fun a h => ?_
        refine c_nil hK ?_
        refine c_cond h rfl (fun ec34 => ?_) (fun ec34 => ?_)
        · have hS := ifT ec34 hS
          refine c_region fun K hK => ?_
          refine st1 h rfl rfl rfl (v_loadA [_, _, _] rfl Tryd.isAgg23 Tryd.sizeOf23 (H.hp.get 4 rfl) rfl rfl) fun a h => ?_
          refine z_store h H 2 rfl rfl rfl Tryd.sizeOf23 [_, _, _] rfl rfl rfl (by simp) [_, _, _] rfl (hl' := [_, _, _, _, _]) rfl fun w H => ?_
          refine c_nil hK ?_
          have h := h.only [6] (l' := [(6, _)]) rfl
          obtain rfl := so hS
          refine c_ret (hret32 _ _ (out1 h rfl ⟨_, rfl, run_loadVar_agg (vs := [_, _, _]) Tryd.isAgg23 Tryd.sizeOf23 (H.hp.get 2 rfl) rfl rfl⟩ ?_))
          exact ⟨rfl, H.out⟩
        · have hS := ifF ec34 hS
          refine c_skip ?_
          refine hN32 _ _ ?_
          have h := h.only [0, 6, 8, 9] (l' := [(0, _), (6, _), (8, _), (9, _)]) rfl
          refine c_seq _ (fun a w c => c) fun Q35 hN35 hO35 => ?_
          have hret35 := hO35.ret hret0
          refine c_region fun K hK => ?_
          refine st1 h rfl rfl rfl (v_move rfl) fun a h => ?_
          refine c_nil hK ?_
          refine c_lblock fun Q36 hN36 hx1_36 hO36 => ?_
          have hret36 := hO36.ret hret35
          refine c_region fun K hK => ?_
          obtain ⟨z56_37, ez56_37, hS⟩ := bv hS
          refine st1 h rfl rfl rfl (vB ez56_37 (v_eq rfl rfl)) fun a h => ?_
          refine st1 h rfl rfl rfl (v_assign rfl) fun a h => ?_
          refine c_nil hK ?_
          refine c_cond h rfl (fun ec38 => ?_) (fun ec38 => ?_)
          · have hS := ifT ec38 hS
            refine c_region fun K hK => ?_
            refine st1 h rfl rfl rfl (v_fieldAddr rfl Tryd.underlying23 rfl Tryd.sizeOf2 rfl rfl) fun a h => ?_
            refine st1 h rfl rfl rfl (v_load1 rfl Tryd.isAgg2 (H.hp.get 3 rfl) rfl) fun a h => ?_
            refine st1 h rfl rfl rfl (v_fieldAddr rfl Tryd.underlying23 rfl Tryd.sizeOf2 rfl rfl) fun a h => ?_
            refine st1 h rfl rfl rfl (v_load1 rfl Tryd.isAgg2 (H.hp.get 4 rfl) rfl) fun a h => ?_
            obtain ⟨y61_39, hy61_39, hS⟩ := bo hS
            refine st2v (T := Ext) (V := .tuple #[.int .i64 y61_39.1, .bool y61_39.2]) h rfl rfl rfl (d_call [_, _] rfl Tryd.call15 (num_Add_ok (x0 := y43_25.n) (x1 := y45_26.n) hy61_39)) fun w X a h => ?_
            have H := H.ext X
            refine st1 h rfl rfl rfl (v_extract rfl rfl) fun a h => ?_
            refine st1 h rfl rfl rfl (v_extract rfl rfl) fun a h => ?_
            obtain ⟨y64_40, hy64_40, hS⟩ := bo hS
            refine st2v (T := Ext) (V := .agg #[.int .i64 y64_40.k, .int .i64 y64_40.n, S y64_40.s]) h rfl rfl rfl (d_call [_, _] rfl Tryd.call19 (value_Made_ok (x0 := y61_39.1) (x1 := y61_39.2) hy64_40)) fun w X a h => ?_
            have H := H.ext X
            refine z_store h H 2 rfl rfl rfl Tryd.sizeOf23 [_, _, _] rfl rfl rfl (by simp) [_, _, _] rfl (hl' := [_, _, _, _, _]) rfl fun w H => ?_
            refine c_nil hK ?_
            have h := h.only [6] (l' := [(6, _)]) rfl
            obtain rfl := so hS
            refine c_ret (hret36 _ _ (out1 h rfl ⟨_, rfl, run_loadVar_agg (vs := [_, _, _]) Tryd.isAgg23 Tryd.sizeOf23 (H.hp.get 2 rfl) rfl rfl⟩ ?_))
            exact ⟨rfl, H.out⟩
          · have hS := ifF ec38 hS
            refine c_region fun K hK => ?_
            obtain ⟨z66_41, ez66_41, hS⟩ := bv hS
            refine st1 h rfl rfl rfl (vB ez66_41 (v_eq rfl rfl)) fun a h => ?_
            refine st1 h rfl rfl rfl (v_assign rfl) fun a h => ?_
            refine c_nil hK ?_
            have h := h.only [6, 8, 9, 54, 65] (l' := [(6, _), (8, _), (9, _), (54, _), (65, _)]) rfl
            refine c_cond h rfl (fun ec42 => ?_) (fun ec42 => ?_)
            · have hS := ifT ec42 hS
              refine c_region fun K hK => ?_
              refine st1 h rfl rfl rfl (v_fieldAddr rfl Tryd.underlying23 rfl Tryd.sizeOf2 rfl rfl) fun a h => ?_
              refine st1 h rfl rfl rfl (v_load1 rfl Tryd.isAgg2 (H.hp.get 3 rfl) rfl) fun a h => ?_
              refine st1 h rfl rfl rfl (v_fieldAddr rfl Tryd.underlying23 rfl Tryd.sizeOf2 rfl rfl) fun a h => ?_
              refine st1 h rfl rfl rfl (v_load1 rfl Tryd.isAgg2 (H.hp.get 4 rfl) rfl) fun a h => ?_
              obtain ⟨y71_43, hy71_43, hS⟩ := bo hS
              refine st2v (T := Ext) (V := .tuple #[.int .i64 y71_43.1, .bool y71_43.2]) h rfl rfl rfl (d_call [_, _] rfl Tryd.call16 (num_Sub_ok (x0 := y43_25.n) (x1 := y45_26.n) hy71_43)) fun w X a h => ?_
              have H := H.ext X
              refine st1 h rfl rfl rfl (v_extract rfl rfl) fun a h => ?_
              refine st1 h rfl rfl rfl (v_extract rfl rfl) fun a h => ?_
              obtain ⟨y74_44, hy74_44, hS⟩ := bo hS
              refine st2v (T := Ext) (V := .agg #[.int .i64 y74_44.k, .int .i64 y74_44.n, S y74_44.s]) h rfl rfl rfl (d_call [_, _] rfl Tryd.call19 (value_Made_ok (x0 := y71_43.1) (x1 := y71_43.2) hy74_44)) fun w X a h => ?_
              have H := H.ext X
              refine z_store h H 2 rfl rfl rfl Tryd.sizeOf23 [_, _, _] rfl rfl rfl (by simp) [_, _, _] rfl (hl' := [_, _, _, _, _]) rfl fun w H => ?_
              refine c_nil hK ?_
              have h := h.only [6] (l' := [(6, _)]) rfl
              obtain rfl := so hS
              refine c_ret (hret36 _ _ (out1 h rfl ⟨_, rfl, run_loadVar_agg (vs := [_, _, _]) Tryd.isAgg23 Tryd.sizeOf23 (H.hp.get 2 rfl) rfl rfl⟩ ?_))
              exact ⟨rfl, H.out⟩
            · have hS := ifF ec42 hS
              refine c_region fun K hK => ?_
              obtain ⟨z76_45, ez76_45, hS⟩ := bv hS
              refine st1 h rfl rfl rfl (vB ez76_45 (v_eq rfl rfl)) fun a h => ?_
              refine st1 h rfl rfl rfl (v_assign rfl) fun a h => ?_
              refine c_nil hK ?_
              refine c_cond h rfl (fun ec46 => ?_) (fun ec46 => ?_)
              · have hS := ifT ec46 hS
                refine c_region fun K hK => ?_
                refine st1 h rfl rfl rfl (v_fieldAddr rfl Tryd.underlying23 rfl Tryd.sizeOf2 rfl rfl) fun a h => ?_
                refine st1 h rfl rfl rfl (v_load1 rfl Tryd.isAgg2 (H.hp.get 3 rfl) rfl) fun a h => ?_
                refine st1 h rfl rfl rfl (v_fieldAddr rfl Tryd.underlying23 rfl Tryd.sizeOf2 rfl rfl) fun a h => ?_
                refine st1 h rfl rfl rfl (v_load1 rfl Tryd.isAgg2 (H.hp.get 4 rfl) rfl) fun a h => ?_
                obtain ⟨y81_47, hy81_47, hS⟩ := bo hS
                refine st2v (T := Ext) (V := .tuple #[.int .i64 y81_47.1, .bool y81_47.2]) h rfl rfl rfl (d_call [_, _] rfl Tryd.call17 (num_Mul_ok (x0 := y43_25.n) (x1 := y45_26.n) hy81_47)) fun w X a h => ?_
                have H := H.ext X
                refine st1 h rfl rfl rfl (v_extract rfl rfl) fun a h => ?_
                refine st1 h rfl rfl rfl (v_extract rfl rfl) fun a h => ?_
                obtain ⟨y84_48, hy84_48, hS⟩ := bo hS
                refine st2v (T := Ext) (V := .agg #[.int .i64 y84_48.k, .int .i64 y84_48.n, S y84_48.s]) h rfl rfl rfl (d_call [_, _] rfl Tryd.call19 (value_Made_ok (x0 := y81_47.1) (x1 := y81_47.2) hy84_48)) fun w X a h => ?_
                have H := H.ext X
                refine z_store h H 2 rfl rfl rfl Tryd.sizeOf23 [_, _, _] rfl rfl rfl (by simp) [_, _, _] rfl (hl' := [_, _, _, _, _]) rfl fun w H => ?_
                refine c_nil hK ?_
                have h := h.only [6] (l' := [(6, _)]) rfl
                obtain rfl := so hS
                refine c_ret (hret36 _ _ (out1 h rfl ⟨_, rfl, run_loadVar_agg (vs := [_, _, _]) Tryd.isAgg23 Tryd.sizeOf23 (H.hp.get 2 rfl) rfl rfl⟩ ?_))
                exact ⟨rfl, H.out⟩
              · have hS := ifF ec46 hS
                refine c_skip ?_
                refine hN36 _ _ ?_
                refine hN35 _ _ ?_
                have h := h.only [6, 8, 9] (l' := [(6, _), (8, _), (9, _)]) rfl
                refine c_seq _ (fun a w c => c) fun Q49 hN49 hO49 => ?_
                have hret49 := hO49.ret hret0
                refine c_region fun K hK => ?_
                refine st1 h rfl rfl rfl (v_fieldAddr rfl Tryd.underlying23 rfl Tryd.sizeOf2 rfl rfl) fun a h => ?_
                refine st1 h rfl rfl rfl (v_load1 rfl Tryd.isAgg2 (H.hp.get 4 rfl) rfl) fun a h => ?_
                obtain ⟨z87_50, ez87_50, hS⟩ := bv hS
                refine st1 h rfl rfl rfl (vB ez87_50 (v_eq rfl rfl)) fun a h => ?_
                refine c_nil hK ?_
                refine c_cond h rfl (fun ec51 => ?_) (fun ec51 => ?_)
                · have hS := ifT ec51 hS
                  refine c_region fun K hK => ?_
                  obtain ⟨y88_52, hy88_52, hS⟩ := bo hS
                  refine st2v (T := Ext) (V := .agg #[.int .i64 y88_52.k, .int .i64 y88_52.n, S y88_52.s]) h rfl rfl rfl (d_call [_] rfl Tryd.call14 (value_Fail_ok (x0 := (1 : Int)) hy88_52)) fun w X a h => ?_
                  have H := H.ext X
                  refine z_store h H 2 rfl rfl rfl Tryd.sizeOf23 [_, _, _] rfl rfl rfl (by simp) [_, _, _] rfl (hl' := [_, _, _, _, _]) rfl fun w H => ?_
                  refine c_nil hK ?_
                  have h := h.only [6] (l' := [(6, _)]) rfl
                  obtain rfl := so hS
                  refine c_ret (hret49 _ _ (out1 h rfl ⟨_, rfl, run_loadVar_agg (vs := [_, _, _]) Tryd.isAgg23 Tryd.sizeOf23 (H.hp.get 2 rfl) rfl rfl⟩ ?_))
                  exact ⟨rfl, H.out⟩
                · have hS := ifF ec51 hS
                  refine c_skip ?_
                  refine hN49 _ _ ?_
                  refine c_region fun K hK => ?_
                  refine st1 h rfl rfl rfl (v_fieldAddr rfl Tryd.underlying23 rfl Tryd.sizeOf2 rfl rfl) fun a h => ?_
                  refine st1 h rfl rfl rfl (v_load1 rfl Tryd.isAgg2 (H.hp.get 3 rfl) rfl) fun a h => ?_
                  refine st1 h rfl rfl rfl (v_fieldAddr rfl Tryd.underlying23 rfl Tryd.sizeOf2 rfl rfl) fun a h => ?_
                  refine st1 h rfl rfl rfl (v_load1 rfl Tryd.isAgg2 (H.hp.get 4 rfl) rfl) fun a h => ?_
                  obtain ⟨y93_53, hy93_53, hS⟩ := bo hS
                  refine st2v (T := Ext) (V := .tuple #[.int .i64 y93_53.1, .bool y93_53.2]) h rfl rfl rfl (d_call [_, _] rfl Tryd.call18 (num_Quo_ok (x0 := y43_25.n) (x1 := y45_26.n) hy93_53)) fun w X a h => ?_
                  have H := H.ext X
                  refine st1 h rfl rfl rfl (v_extract rfl rfl) fun a h => ?_
                  refine st1 h rfl rfl rfl (v_extract rfl rfl) fun a h => ?_
                  obtain ⟨y96_54, hy96_54, hS⟩ := bo hS
                  refine st2v (T := Ext) (V := .agg #[.int .i64 y96_54.k, .int .i64 y96_54.n, S y96_54.s]) h rfl rfl rfl (d_call [_, _] rfl Tryd.call19 (value_Made_ok (x0 := y93_53.1) (x1 := y93_53.2) hy96_54)) fun w X a h => ?_
                  have H := H.ext X
                  refine z_store h H 2 rfl rfl rfl Tryd.sizeOf23 [_, _, _] rfl rfl rfl (by simp) [_, _, _] rfl (hl' := [_, _, _, _, _]) rfl fun w H => ?_
                  refine c_nil hK ?_
                  have h := h.only [6] (l' := [(6, _)]) rfl
                  obtain rfl := so hS
                  refine c_ret (hret0 _ _ (out1 h rfl ⟨_, rfl, run_loadVar_agg (vs := [_, _, _]) Tryd.isAgg23 Tryd.sizeOf23 (H.hp.get 2 rfl) rfl rfl⟩ ?_))
                  exact ⟨rfl, H.out⟩

theorem funcs_Unary_ok {x0 : Int} {x1 : V} {res : V} {w0 : World} (hS : funcs_Unary x0 x1 = some res) : Calls Tryd.prog 20 [.int .i64 x0, .agg #[.int .i64 x1.k, .int .i64 x1.n, S x1.s]].toArray w0 (Ret fun v w => v = .agg #[.int .i64 res.k, .int .i64 res.n, S res.s] ∧ Ext w0 w) := by
  refine enter Tryd.func20 rfl rfl rfl fun Q a h hret0 hnor => ?_
  obtain ⟨Zi, Z, H⟩ : ∃ Zi Z, HZ w0 Zi Z [] w0 := ⟨_, _, HZ.start w0⟩
  have h := h.only [0, 1] (l' := [(0, _), (1, _)]) rfl
  unfold funcs_Unary at hS
  refine c_region fun K hK => ?_
  refine z_box h H rfl [_, _, _] rfl rfl fun a p3_1 w X H h => ?_
  have H : HZ w0 _ _ [_] _ := H
  refine z_alloc h H Tryd.zeroValue23 [_, _, _] rfl rfl fun a p4_2 w X H h => ?_
  have H : HZ w0 _ _ [_, _] _ := H
  refine c_nil hK ?_
  refine c_region fun K hK => ?_
  refine st1 h rfl rfl rfl (v_loadA [_, _, _] rfl Tryd.isAgg23 Tryd.sizeOf23 (H.hp.get 0 rfl) rfl rfl) fun a h => ?_
  obtain ⟨y7_3, hy7_3, hS⟩ := bo hS
  refine st2v (T := Ext) (V := .agg #[.int .i64 y7_3.k, .int .i64 y7_3.n, S y7_3.s]) h rfl rfl rfl (d_call [_] rfl Tryd.call13 (value_ToNum_ok (x0 := x1) hy7_3)) fun w X a h => ?_
  have H := H.ext X
  refine z_alloc h H Tryd.zeroValue23 [_, _, _] rfl rfl fun a p5_4 w X H h => ?_
  have H : HZ w0 _ _ [_, _, _] _ := H
  refine z_store h H 2 rfl rfl rfl Tryd.sizeOf23 [_, _, _] rfl rfl rfl (by simp) [_, _, _] rfl (hl' := [_, _, _]) rfl fun w H => ?_
  refine c_nil hK ?_
  have h := h.only [0, 4, 5] (l' := [(0, _), (4, _), (5, _)]) rfl
  refine c_seq _ (fun a w c => c) fun Q5 hN5 hO5 => ?_
  have hret5 := hO5.ret hret0
  refine c_region fun K hK => ?_
  refine st1 h rfl rfl rfl (v_fieldAddr rfl Tryd.underlying23 rfl Tryd.sizeOf3 rfl rfl) fun a h => ?_
  refine st1 h rfl rfl rfl (v_load1 rfl Tryd.isAgg3 (H.hp.get 2 rfl) rfl) fun a h => ?_
  obtain ⟨z10_6, ez10_6, hS⟩ := bv hS
  refine st1 h rfl rfl rfl (vB ez10_6 (v_eq rfl rfl)) fun a h => ?_
  refine c_nil hK ?_
  refine c_cond h rfl (fun ec7 => ?_) (fun ec7 => ?_)
  · have hS := ifT ec7 hS
    refine c_region fun K hK => ?_
    refine st1 h rfl rfl rfl (v_loadA [_, _, _] rfl Tryd.isAgg23 Tryd.sizeOf23 (H.hp.get 2 rfl) rfl rfl) fun a h => ?_
    refine z_store h H 1 rfl rfl rfl Tryd.sizeOf23 [_, _, _] rfl rfl rfl (by simp) [_, _, _] rfl (hl' := [_, _, _]) rfl fun w H => ?_
    refine c_nil hK ?_
    have h := h.only [4] (l' := [(4, _)]) rfl
    obtain rfl := so hS
    refine c_ret (hret5 _ _ (out1 h rfl ⟨_, rfl, run_loadVar_agg (vs := [_, _, _]) Tryd.isAgg23 Tryd.sizeOf23 (H.hp.get 1 rfl) rfl rfl⟩ ?_))
    exact ⟨rfl, H.out⟩
  · have hS := ifF ec7 hS
    refine c_skip ?_
    refine hN5 _ _ ?_
    refine c_seq _ (fun a w c => c) fun Q8 hN8 hO8 => ?_
    have hret8 := hO8.ret hret0
    refine c_region fun K hK => ?_
    refine st1 h rfl rfl rfl (v_move rfl) fun a h => ?_
    obtain ⟨z13_9, ez13_9, hS⟩ := bv hS
    refine st1 h rfl rfl rfl (vB ez13_9 (v_eq rfl rfl)) fun a h => ?_
    refine c_nil hK ?_
    have h := h.only [4, 5, 13] (l' := [(4, _), (5, _), (13, _)]) rfl
    refine c_cond h rfl (fun ec10 => ?_) (fun ec10 => ?_)
    · have hS := ifT ec10 hS
      refine c_region fun K hK => ?_
      refine st1 h rfl rfl rfl (v_fieldAddr rfl Tryd.underlying23 rfl Tryd.sizeOf2 rfl rfl) fun a h => ?_
      refine st1 h rfl rfl rfl (v_load1 rfl Tryd.isAgg2 (H.hp.get 2 rfl) rfl) fun a h => ?_
      obtain ⟨z16_11, ez16_11, hS⟩ := bv hS
      refine st1 h rfl rfl rfl (vI ez16_11 (v_negw rfl)) fun a h => ?_
      obtain ⟨y17_12, hy17_12, hS⟩ := bo hS
      refine st2v (T := Ext) (V := .agg #[.int .i64 y17_12.k, .int .i64 y17_12.n, S y17_12.s]) h rfl rfl rfl (d_call [_] rfl Tryd.call21 (value_Num_ok (x0 := z16_11) hy17_12)) fun w X a h => ?_
      have H := H.ext X
      refine z_store h H 1 rfl rfl rfl Tryd.sizeOf23 [_, _, _] rfl rfl rfl (by simp) [_, _, _] rfl (hl' := [_, _, _]) rfl fun w H => ?_
      refine c_nil hK ?_
      have h := h.only [4] (l' := [(4, _)]) rfl
      obtain rfl := so hS
      refine c_ret (hret8 _ _ (out1 h rfl ⟨_, rfl, run_loadVar_agg (vs := [_, _, _]) Tryd.isAgg23 Tryd.sizeOf23 (H.hp.get 1 rfl) rfl rfl⟩ ?_))
      exact ⟨rfl, H.out⟩
    · have hS := ifF ec10 hS
      refine c_skip ?_
      refine hN8 _ _ ?_
      refine c_region fun K hK => ?_
      refine st1 h rfl rfl rfl (v_fieldAddr rfl Tryd.underlying23 rfl Tryd.sizeOf2 rfl rfl) fun a h => ?_
      refine st1 h rfl rfl rfl (v_load1 rfl Tryd.isAgg2 (H.hp.get 2 rfl) rfl) fun a h => ?_
      obtain ⟨y20_13, hy20_13, hS⟩ := bo hS
      refine st2v (T := Ext) (V := .tuple #[.int .i64 y20_13.1, .bool y20_13.2]) h rfl rfl rfl (d_call [_, _] rfl Tryd.call18 (num_Quo_ok (x0 := y7_3.n) (x1 := (100000000 : Int)) hy20_13)) fun w X a h => ?_
      have H := H.ext X
      refine st1 h rfl rfl rfl (v_extract rfl rfl) fun a h => ?_
      refine st1 h rfl rfl rfl (v_extract rfl rfl) fun a h => ?_
      obtain ⟨y23_14, hy23_14, hS⟩ := bo hS
      refine st2v (T := Ext) (V := .agg #[.int .i64 y23_14.k, .int .i64 y23_14.n, S y23_14.s]) h rfl rfl rfl (d_call [_, _] rfl Tryd.call19 (value_Made_ok (x0 := y20_13.1) (x1 := y20_13.2) hy23_14)) fun w X a h => ?_
      have H := H.ext X
      refine z_store h H 1 rfl rfl rfl Tryd.sizeOf23 [_, _, _] rfl rfl rfl (by simp) [_, _, _] rfl (hl' := [_, _, _]) rfl fun w H => ?_
      refine c_nil hK ?_
      have h := h.only [4] (l' := [(4, _)]) rfl
      obtain rfl := so hS
      refine c_ret (hret0 _ _ (out1 h rfl ⟨_, rfl, run_loadVar_agg (vs := [_, _, _]) Tryd.isAgg23 Tryd.sizeOf23 (H.hp.get 1 rfl) rfl rfl⟩ ?_))
      exact ⟨rfl, H.out⟩

theorem reckonerlaw12_fit_ok  {res : Bool} {w0 : World} (hS : reckonerlaw12_fit  = some res) (hG : GW w0) : Calls Tryd.prog 5 [].toArray w0 (Ret fun v w => v = .bool res ∧ Ext w0 w) := by
  refine enter Tryd.func5 rfl rfl rfl fun Q a h hret0 hnor => ?_
  obtain ⟨Zi, Z, H⟩ : ∃ Zi Z, HZ w0 Zi Z [] w0 := ⟨_, _, HZ.start w0⟩
  have h := h.only [] (l' := []) rfl
  unfold reckonerlaw12_fit at hS
  refine c_region fun K hK => ?_
  refine st1 h rfl rfl rfl (v_assign rfl) fun a h => ?_
  refine c_nil hK ?_
  refine c_region fun K hK => ?_
  obtain ⟨y1_1, hy1_1, hS⟩ := bo hS
  refine st2v (T := Ext) (V := .agg #[.int .i64 y1_1.k, .int .i64 y1_1.n, S y1_1.s]) h rfl rfl rfl (d_call [_] rfl Tryd.call21 (value_Num_ok (x0 := (1000000 : Int)) hy1_1)) fun w X a h => ?_
  have H := H.ext X
  obtain ⟨y2_2, hy2_2, hS⟩ := bo hS
  refine st2v (T := Ext) (V := .agg #[.int .i64 y2_2.k, .int .i64 y2_2.n, S y2_2.s]) h rfl rfl rfl (d_call [_] rfl Tryd.call9 (value_Bool_ok (x0 := true) hy2_2)) fun w X a h => ?_
  have H := H.ext X
  obtain ⟨y3_3, hy3_3, hS⟩ := bo hS
  refine st2v (T := Ext) (V := .agg #[.int .i64 y3_3.k, .int .i64 y3_3.n, S y3_3.s]) h rfl rfl rfl (d_call [_, _, _] rfl Tryd.call8 (funcs_Binary_ok (x0 := (5 : Int)) (x1 := y1_1) (x2 := y2_2) hy3_3 (hG.ext H.out))) fun w X a h => ?_
  have H := H.ext X
  obtain ⟨y4_4, hy4_4, hS⟩ := bo hS
  refine st2v (T := Ext) (V := .agg #[.int .i64 y4_4.k, .int .i64 y4_4.n, S y4_4.s]) h rfl rfl rfl (d_call [_] rfl Tryd.call11 (value_Text_ok (x0 := ([49, 84, 82, 85, 69] : List UInt8)) hy4_4)) fun w X a h => ?_
  have H := H.ext X
  obtain ⟨z5_5, ez5_5, hS⟩ := bv hS
  refine st1 h rfl rfl rfl (vB ez5_5 (v_aggeq rfl rfl age23 (agq23 _ _ _ _ _ _))) fun a h => ?_
  refine st1 h rfl rfl rfl (v_move rfl) fun a h => ?_
  obtain ⟨y7_6, hy7_6, hS⟩ := bo hS
  refine st_gd (T := Ext) (V := S y7_6) h rfl rfl (gT rfl) rfl rfl (Ext.refl _) (fun e0 => d_call [_] rfl Tryd.call22 (num_Print_ok (x0 := (0 : Int)) (ifT e0 hy7_6))) fun w X a h => ?_
  have H := H.ext X
  obtain ⟨z8_7, ez8_7, hS⟩ := bv hS
  refine st_g h rfl rfl (gT rfl) rfl rfl (fun e0 => vB ez8_7 (v_seq (eg e0 rfl) rfl)) fun a h => ?_
  obtain ⟨z9_8, ez9_8, hS⟩ := bv hS
  refine st1 h rfl rfl rfl (vB ez9_8 (v_and rfl rfl)) fun a h => ?_
  refine st1 h rfl rfl rfl (v_assign rfl) fun a h => ?_
  refine c_nil hK ?_
  have h := h.only [0] (l' := [(0, _)]) rfl
  obtain rfl := so hS
  refine c_ret (hret0 _ _ (out1 h rfl rfl ?_))
  exact ⟨rfl, H.out⟩

theorem reckonerlaw12_FuncsOperators_ok {x0 : Int} {x1 : V} {x2 : V} {res : Bool} {w0 : World} (hS : reckonerlaw12_FuncsOperators x0 x1 x2 = some res) (hG : GW w0) : Calls Tryd.prog 4 [.int .i64 x0, .agg #[.int .i64 x1.k, .int .i64 x1.n, S x1.s], .agg #[.int .i64 x2.k, .int .i64 x2.n, S x2.s]].toArray w0 (Ret fun v w => v = .bool res ∧ Ext w0 w) := by
  refine enter Tryd.func4 rfl rfl rfl fun Q a h hret0 hnor => ?_
  obtain ⟨Zi, Z, H⟩ : ∃ Zi Z, HZ w0 Zi Z [] w0 := ⟨_, _, HZ.start w0⟩
  have h := h.only [0, 1, 2] (l' := [(0, _), (1, _), (2, _)]) rfl
  unfold reckonerlaw12_FuncsOperators at hS
  refine c_region fun K hK => ?_
  refine z_box h H rfl [_, _, _] rfl rfl fun a p4_1 w X H h => ?_
  have H : HZ w0 _ _ [_] _ := H
  refine z_box h H rfl [_, _, _] rfl rfl fun a p5_2 w X H h => ?_
  have H : HZ w0 _ _ [_, _] _ := H
  refine st1 h rfl rfl rfl (v_assign rfl) fun a h => ?_
  refine c_nil hK ?_
  refine c_seq _ (fun a w c => c) fun Q3 hN3 hO3 => ?_
  have hret3 := hO3.ret hret0
  refine c_region fun K hK => ?_
  obtain ⟨y15_4, hy15_4, hS⟩ := bo hS
  refine st2v (T := Ext) (V := .bool y15_4) h rfl rfl rfl (d_call [] rfl Tryd.call5 (reckonerlaw12_fit_ok  hy15_4 (hG.ext H.out))) fun w X a h => ?_
  have H := H.ext X
  obtain ⟨z16_5, ez16_5, hS⟩ := bv hS
  refine st1 h rfl rfl rfl (vB ez16_5 (v_not rfl)) fun a h => ?_
  refine c_nil hK ?_
  have h := h.only [0, 4, 5, 16] (l' := [(0, _), (4, _), (5, _), (16, _)]) rfl
  refine c_cond h rfl (fun ec6 => ?_) (fun ec6 => ?_)
  · have hS := ifT ec6 hS
    refine c_region fun K hK => ?_
    refine st1 h rfl rfl rfl (v_assign rfl) fun a h => ?_
    refine c_nil hK ?_
    have h := h.only [6] (l' := [(6, _)]) rfl
    obtain rfl := so hS
    refine c_ret (hret3 _ _ (out1 h rfl rfl ?_))
    exact ⟨rfl, H.out⟩
  · have hS := ifF ec6 hS
    refine c_skip ?_
    refine hN3 _ _ ?_
    refine c_seq _ (fun a w c => c) fun Q7 hN7 hO7 => ?_
    have hret7 := hO7.ret hret0
    refine c_region fun K hK => ?_
    refine st1 h rfl rfl rfl (v_loadA [_, _, _] rfl Tryd.isAgg23 Tryd.sizeOf23 (H.hp.get 0 rfl) rfl rfl) fun a h => ?_
    obtain ⟨y18_8, hy18_8, hS⟩ := bo hS
    refine st2v (T := Ext) (V := .bool y18_8) h rfl rfl rfl (d_call [_] rfl Tryd.call6 (reckonerlaw12_good_ok (x0 := x1) hy18_8)) fun w X a h => ?_
    have H := H.ext X
    obtain ⟨z19_9, ez19_9, hS⟩ := bv hS
    refine st1 h rfl rfl rfl (vB ez19_9 (v_not rfl)) fun a h => ?_
    refine st1 h rfl rfl rfl (v_move rfl) fun a h => ?_
    refine st_g h rfl rfl (gF rfl) rfl rfl (fun e0 => v_loadA [_, _, _] rfl Tryd.isAgg23 Tryd.sizeOf23 (H.hp.get 1 rfl) rfl rfl) fun a h => ?_
    obtain ⟨y22_10, hy22_10, hS⟩ := bo hS
    refine st_gd (T := Ext) (V := .bool y22_10) h rfl rfl (gF rfl) rfl rfl (Ext.refl _) (fun e0 => d_call [_] (evs_c (eg e0 rfl) evs_n) Tryd.call6 (reckonerlaw12_good_ok (x0 := x2) (ifT e0 hy22_10))) fun w X a h => ?_
    have H := H.ext X
    obtain ⟨z23_11, ez23_11, hS⟩ := bv hS
    refine st_g h rfl rfl (gF rfl) rfl rfl (fun e0 => vB ez23_11 (v_not (eg e0 rfl))) fun a h => ?_
    obtain ⟨z24_12, ez24_12, hS⟩ := bv hS
    refine st1 h rfl rfl rfl (vB ez24_12 (v_or rfl rfl)) fun a h => ?_
    refine c_nil hK ?_
    have h := h.only [0, 4, 5, 24] (l' := [(0, _), (4, _), (5, _), (24, _)]) rfl
    refine c_cond h rfl (fun ec13 => ?_) (fun ec13 => ?_)
    · have hS := ifT ec13 hS
      refine c_region fun K hK => ?_
      refine st1 h rfl rfl rfl (v_assign rfl) fun a h => ?_
      refine c_nil hK ?_
      have h := h.only [6] (l' := [(6, _)]) rfl
      obtain rfl := so hS
      refine c_ret (hret7 _ _ (out1 h rfl rfl ?_))
      exact ⟨rfl, H.out⟩
    · have hS := ifF ec13 hS
      refine c_skip ?_
      refine hN7 _ _ ?_
      refine c_region fun K hK => ?_
      refine st1 h rfl rfl rfl (v_move rfl) fun a h => ?_
      obtain ⟨z26_14, ez26_14, hS⟩ := bv hS
      refine st1 h rfl rfl rfl (vI ez26_14 (v_rem rfl rfl (by decide))) fun a h => ?_
      obtain ⟨z27_15, ez27_15, hS⟩ := bv hS
      refine st1 h rfl rfl rfl (vI ez27_15 (v_addw rfl rfl)) fun a h => ?_
      obtain ⟨z28_16, ez28_16, hS⟩ := bv hS
      refine st1 h rfl rfl rfl (vI ez28_16 (v_rem rfl rfl (by decide))) fun a h => ?_
      obtain ⟨z29_17, ez29_17, hS⟩ := bv hS
      refine st1 h rfl rfl rfl (vI ez29_17 (v_addw rfl rfl)) fun a h => ?_
      refine st1 h rfl rfl rfl (v_assign rfl) fun a h => ?_
      refine c_nil hK ?_
      have h := h.only [0, 4, 5] (l' := [(0, _), (4, _), (5, _)]) rfl
      refine c_region fun K hK => ?_
      refine st1 h rfl rfl rfl (v_move rfl) fun a h => ?_
      refine st1 h rfl rfl rfl (v_loadA [_, _, _] rfl Tryd.isAgg23 Tryd.sizeOf23 (H.hp.get 0 rfl) rfl rfl) fun a h => ?_
      refine st1 h rfl rfl rfl (v_loadA [_, _, _] rfl Tryd.isAgg23 Tryd.sizeOf23 (H.hp.get 1 rfl) rfl rfl) fun a h => ?_
      obtain ⟨y33_18, hy33_18, hS⟩ := bo hS
      refine st2v (T := Ext) (V := .agg #[.int .i64 y33_18.k, .int .i64 y33_18.n, S y33_18.s]) h rfl rfl rfl (d_call [_, _, _] rfl Tryd.call8 (funcs_Binary_ok (x0 := z29_17) (x1 := x1) (x2 := x2) hy33_18 (hG.ext H.out))) fun w X a h => ?_
      have H := H.ext X
      refine z_alloc h H Tryd.zeroValue23 [_, _, _] rfl rfl fun a p7_19 w X H h => ?_
      have H : HZ w0 _ _ [_, _, _] _ := H
      refine z_store h H 2 rfl rfl rfl Tryd.sizeOf23 [_, _, _] rfl rfl rfl (by simp) [_, _, _] rfl (hl' := [_, _, _]) rfl fun w H => ?_
      refine c_nil hK ?_
      have h := h.only [0, 4, 5, 7] (l' := [(0, _), (4, _), (5, _), (7, _)]) rfl
      refine c_seq _ (fun a w c => c) fun Q20 hN20 hO20 => ?_
      have hret20 := hO20.ret hret0
      refine c_region fun K hK => ?_
      refine st1 h rfl rfl rfl (v_move rfl) fun a h => ?_
      obtain ⟨z35_21, ez35_21, hS⟩ := bv hS
      refine st1 h rfl rfl rfl (vB ez35_21 (v_ge rfl rfl)) fun a h => ?_
      refine c_nil hK ?_
      refine c_cond h rfl (fun ec22 => ?_) (fun ec22 => ?_)
      · have hS := ifT ec22 hS
        refine c_region fun K hK => ?_
        refine st1 h rfl rfl rfl (v_loadA [_, _, _] rfl Tryd.isAgg23 Tryd.sizeOf23 (H.hp.get 0 rfl) rfl rfl) fun a h => ?_
        refine st1 h rfl rfl rfl (v_loadA [_, _, _] rfl Tryd.isAgg23 Tryd.sizeOf23 (H.hp.get 1 rfl) rfl rfl) fun a h => ?_
        obtain ⟨y38_23, hy38_23, hS⟩ := bo hS
        refine st2v (T := Ext) (V := .int .i64 y38_23) h rfl rfl rfl (d_call [_, _] rfl Tryd.call10 (value_Compare_ok (x0 := x1) (x1 := x2) hy38_23)) fun w X a h => ?_
        have H := H.ext X
        refine st1 h rfl rfl rfl (v_assign rfl) fun a h => ?_
        refine c_nil hK ?_
        have h := h.only [0, 7, 8] (l' := [(0, _), (7, _), (8, _)]) rfl
        refine c_flow h (by kernel_rfl) (by kernel_rfl) ?_
        refine f1 [7] rfl rfl rfl rfl (fun w X => have H := H.ext X; v_loadA [_, _, _] rfl Tryd.isAgg23 Tryd.sizeOf23 (H.hp.get 2 rfl) rfl rfl) ?_
        refine f1 [0] rfl rfl rfl rfl (fun w X => v_move rfl) ?_
        obtain ⟨z41_24, ez41_24, hS⟩ := bv hS
        refine f1 [40] rfl rfl rfl rfl (fun w X => vB ez41_24 (v_eq rfl rfl)) ?_
        refine f1 [41] rfl rfl rfl rfl (fun w X => v_move rfl) ?_
        refine f_g [8, 42] rfl rfl rfl (gT rfl) rfl rfl (fun e0 w X => v_move rfl) ?_
        obtain ⟨z44_25, ez44_25, hS⟩ := bv hS
        refine f_g [43, 42] rfl rfl rfl (gT rfl) rfl rfl (fun e0 w X => vB ez44_25 (v_eq (eg e0 rfl) rfl)) ?_
        obtain ⟨z45_26, ez45_26, hS⟩ := bv hS
        refine f1 [42, 44] rfl rfl rfl rfl (fun w X => vB ez45_26 (v_and rfl rfl)) ?_
        refine f1 [45] rfl rfl rfl rfl (fun w X => v_move rfl) ?_
        refine f_g [0, 46] rfl rfl rfl (gF rfl) rfl rfl (fun e0 w X => v_move rfl) ?_
        obtain ⟨z48_27, ez48_27, hS⟩ := bv hS
        refine f_g [47, 46] rfl rfl rfl (gF rfl) rfl rfl (fun e0 w X => vB ez48_27 (v_eq (eg e0 rfl) rfl)) ?_
        refine f_g [48, 46] rfl rfl rfl (gF rfl) rfl rfl (fun e0 w X => v_move (eg e0 rfl)) ?_
        refine f_g [8, 49] rfl rfl rfl (ggT rfl) rfl rfl (fun e0 w X => v_move rfl) ?_
        obtain ⟨z51_28, ez51_28, hS⟩ := bv hS
        refine f_g [50, 49] rfl rfl rfl (ggT rfl) rfl rfl (fun e0 w X => vB ez51_28 (v_ne (eg e0 rfl) rfl)) ?_
        obtain ⟨z52_29, ez52_29, hS⟩ := bv hS
        refine f_g [49, 51, 46] rfl rfl rfl (gF rfl) rfl rfl (fun e0 w X => vB ez52_29 (v_and (eg e0 rfl) (egn e0 rfl))) ?_
        obtain ⟨z53_30, ez53_30, hS⟩ := bv hS
        refine f1 [46, 52] rfl rfl rfl rfl (fun w X => vB ez53_30 (v_or rfl rfl)) ?_
        refine f1 [53] rfl rfl rfl rfl (fun w X => v_move rfl) ?_
        refine f_g [0, 54] rfl rfl rfl (gF rfl) rfl rfl (fun e0 w X => v_move rfl) ?_
        obtain ⟨z56_31, ez56_31, hS⟩ := bv hS
        refine f_g [55, 54] rfl rfl rfl (gF rfl) rfl rfl (fun e0 w X => vB ez56_31 (v_eq (eg e0 rfl) rfl)) ?_
        refine f_g [56, 54] rfl rfl rfl (gF rfl) rfl rfl (fun e0 w X => v_move (eg e0 rfl)) ?_
        refine f_g [8, 57] rfl rfl rfl (ggT rfl) rfl rfl (fun e0 w X => v_move rfl) ?_
        obtain ⟨z59_32, ez59_32, hS⟩ := bv hS
        refine f_g [58, 57] rfl rfl rfl (ggT rfl) rfl rfl (fun e0 w X => vB ez59_32 (v_lt (eg e0 rfl) rfl)) ?_
        obtain ⟨z60_33, ez60_33, hS⟩ := bv hS
        refine f_g [57, 59, 54] rfl rfl rfl (gF rfl) rfl rfl (fun e0 w X => vB ez60_33 (v_and (eg e0 rfl) (egn e0 rfl))) ?_
        obtain ⟨z61_34, ez61_34, hS⟩ := bv hS
        refine f1 [54, 60] rfl rfl rfl rfl (fun w X => vB ez61_34 (v_or rfl rfl)) ?_
        refine f1 [61] rfl rfl rfl rfl (fun w X => v_move rfl) ?_
        refine f_g [0, 62] rfl rfl rfl (gF rfl) rfl rfl (fun e0 w X => v_move rfl) ?_
        obtain ⟨z64_35, ez64_35, hS⟩ := bv hS
        refine f_g [63, 62] rfl rfl rfl (gF rfl) rfl rfl (fun e0 w X => vB ez64_35 (v_eq (eg e0 rfl) rfl)) ?_
        refine f_g [64, 62] rfl rfl rfl (gF rfl) rfl rfl (fun e0 w X => v_move (eg e0 rfl)) ?_
        refine f_g [8, 65] rfl rfl rfl (ggT rfl) rfl rfl (fun e0 w X => v_move rfl) ?_
        obtain ⟨z67_36, ez67_36, hS⟩ := bv hS
        refine f_g [66, 65] rfl rfl rfl (ggT rfl) rfl rfl (fun e0 w X => vB ez67_36 (v_le (eg e0 rfl) rfl)) ?_
        obtain ⟨z68_37, ez68_37, hS⟩ := bv hS
        refine f_g [65, 67, 62] rfl rfl rfl (gF rfl) rfl rfl (fun e0 w X => vB ez68_37 (v_and (eg e0 rfl) (egn e0 rfl))) ?_
        obtain ⟨z69_38, ez69_38, hS⟩ := bv hS
        refine f1 [62, 68] rfl rfl rfl rfl (fun w X => vB ez69_38 (v_or rfl rfl)) ?_
        refine f1 [69] rfl rfl rfl rfl (fun w X => v_move rfl) ?_
        refine f_g [0, 70] rfl rfl rfl (gF rfl) rfl rfl (fun e0 w X => v_move rfl) ?_
        obtain ⟨z72_39, ez72_39, hS⟩ := bv hS
        refine f_g [71, 70] rfl rfl rfl (gF rfl) rfl rfl (fun e0 w X => vB ez72_39 (v_eq (eg e0 rfl) rfl)) ?_
        refine f_g [72, 70] rfl rfl rfl (gF rfl) rfl rfl (fun e0 w X => v_move (eg e0 rfl)) ?_
        refine f_g [8, 73] rfl rfl rfl (ggT rfl) rfl rfl (fun e0 w X => v_move rfl) ?_
        obtain ⟨z75_40, ez75_40, hS⟩ := bv hS
        refine f_g [74, 73] rfl rfl rfl (ggT rfl) rfl rfl (fun e0 w X => vB ez75_40 (v_gt (eg e0 rfl) rfl)) ?_
        obtain ⟨z76_41, ez76_41, hS⟩ := bv hS
        refine f_g [73, 75, 70] rfl rfl rfl (gF rfl) rfl rfl (fun e0 w X => vB ez76_41 (v_and (eg e0 rfl) (egn e0 rfl))) ?_
        obtain ⟨z77_42, ez77_42, hS⟩ := bv hS
        refine f1 [70, 76] rfl rfl rfl rfl (fun w X => vB ez77_42 (v_or rfl rfl)) ?_
        refine f1 [77] rfl rfl rfl rfl (fun w X => v_move rfl) ?_
        refine f_g [0, 78] rfl rfl rfl (gF rfl) rfl rfl (fun e0 w X => v_move rfl) ?_
        obtain ⟨z80_43, ez80_43, hS⟩ := bv hS
        refine f_g [79, 78] rfl rfl rfl (gF rfl) rfl rfl (fun e0 w X => vB ez80_43 (v_eq (eg e0 rfl) rfl)) ?_
        refine f_g [80, 78] rfl rfl rfl (gF rfl) rfl rfl (fun e0 w X => v_move (eg e0 rfl)) ?_
        refine f_g [8, 81] rfl rfl rfl (ggT rfl) rfl rfl (fun e0 w X => v_move rfl) ?_
        obtain ⟨z83_44, ez83_44, hS⟩ := bv hS
        refine f_g [82, 81] rfl rfl rfl (ggT rfl) rfl rfl (fun e0 w X => vB ez83_44 (v_ge (eg e0 rfl) rfl)) ?_
        obtain ⟨z84_45, ez84_45, hS⟩ := bv hS
        refine f_g [81, 83, 78] rfl rfl rfl (gF rfl) rfl rfl (fun e0 w X => vB ez84_45 (v_and (eg e0 rfl) (egn e0 rfl))) ?_
        obtain ⟨z85_46, ez85_46, hS⟩ := bv hS
        refine f1 [78, 84] rfl rfl rfl rfl (fun w X => vB ez85_46 (v_or rfl rfl)) ?_
        obtain ⟨y86_47, hy86_47, hS⟩ := bo hS
        refine f2 (V := .agg #[.int .i64 y86_47.k, .int .i64 y86_47.n, S y86_47.s]) [85] rfl rfl rfl rfl (fun w X => d_call [_] rfl Tryd.call9 (value_Bool_ok (x0 := z85_46) hy86_47)) ?_
        obtain ⟨z87_48, ez87_48, hS⟩ := bv hS
        refine f1 [39, 86] rfl rfl rfl rfl (fun w X => vB ez87_48 (v_aggeq rfl rfl age23 (agq23 _ _ _ _ _ _))) ?_
        refine f1 [87] rfl rfl rfl rfl (fun w X => v_assign rfl) ?_
        refine fn_ ?_
        intro a w X hR hA
        have h := hR.out [6]
        have h : Fr 186 [(6, _)] a := h
        have H := H.ext X
        obtain rfl := so hS
        refine c_ret (hret20 _ _ (out1 h rfl rfl ?_))
        exact ⟨rfl, H.out⟩
      · have hS := ifF ec22 hS
        refine c_skip ?_
        refine hN20 _ _ ?_
        refine c_seq _ (fun a w c => c) fun Q49 hN49 hO49 => ?_
        have hret49 := hO49.ret hret0
        refine c_region fun K hK => ?_
        refine st1 h rfl rfl rfl (v_move rfl) fun a h => ?_
        obtain ⟨z89_50, ez89_50, hS⟩ := bv hS
        refine st1 h rfl rfl rfl (vB ez89_50 (v_eq rfl rfl)) fun a h => ?_
        refine c_nil hK ?_
        refine c_cond h rfl (fun ec51 => ?_) (fun ec51 => ?_)
        · have hS := ifT ec51 hS
          refine c_flow h (by kernel_rfl) (by kernel_rfl) ?_
          refine f1 [7] rfl rfl rfl rfl (fun w X => have H := H.ext X; v_loadA [_, _, _] rfl Tryd.isAgg23 Tryd.sizeOf23 (H.hp.get 2 rfl) rfl rfl) ?_
          refine f1 [4] rfl rfl rfl rfl (fun w X => have H := H.ext X; v_loadA [_, _, _] rfl Tryd.isAgg23 Tryd.sizeOf23 (H.hp.get 0 rfl) rfl rfl) ?_
          obtain ⟨y92_52, hy92_52, hS⟩ := bo hS
          refine f2 (V := S y92_52) [91] rfl rfl rfl rfl (fun w X => have H := H.ext X; d_call [_] rfl Tryd.call12 (value_Show_ok (x0 := x1) hy92_52 (hG.ext H.out))) ?_
          refine f1 [5] rfl rfl rfl rfl (fun w X => have H := H.ext X; v_loadA [_, _, _] rfl Tryd.isAgg23 Tryd.sizeOf23 (H.hp.get 1 rfl) rfl rfl) ?_
          obtain ⟨y94_53, hy94_53, hS⟩ := bo hS
          refine f2 (V := S y94_53) [93] rfl rfl rfl rfl (fun w X => have H := H.ext X; d_call [_] rfl Tryd.call12 (value_Show_ok (x0 := x2) hy94_53 (hG.ext H.out))) ?_
          obtain ⟨c54, hS⟩ := ck hS
          obtain ⟨z95_55, ez95_55, hS⟩ := bv hS
          refine f1 [92, 94] rfl rfl rfl rfl (fun w X => vS ez95_55 (v_sadd rfl rfl c54)) ?_
          obtain ⟨y96_56, hy96_56, hS⟩ := bo hS
          refine f2 (V := .agg #[.int .i64 y96_56.k, .int .i64 y96_56.n, S y96_56.s]) [95] rfl rfl rfl rfl (fun w X => d_call [_] rfl Tryd.call11 (value_Text_ok (x0 := z95_55) hy96_56)) ?_
          obtain ⟨z97_57, ez97_57, hS⟩ := bv hS
          refine f1 [90, 96] rfl rfl rfl rfl (fun w X => vB ez97_57 (v_aggeq rfl rfl age23 (agq23 _ _ _ _ _ _))) ?_
          refine f1 [97] rfl rfl rfl rfl (fun w X => v_assign rfl) ?_
          refine fn_ ?_
          intro a w X hR hA
          have h := hR.out [6]
          have h : Fr 186 [(6, _)] a := h
          have H := H.ext X
          obtain rfl := so hS
          refine c_ret (hret49 _ _ (out1 h rfl rfl ?_))
          exact ⟨rfl, H.out⟩
        · have hS := ifF ec51 hS
          refine c_skip ?_
          refine hN49 _ _ ?_
          have h := h.only [0, 4, 5, 7] (l' := [(0, _), (4, _), (5, _), (7, _)]) rfl
          refine c_flowT 6 h (by kernel_rfl) (by kernel_rfl) fun K hK => ?_
          refine f1 [4] rfl rfl rfl rfl (fun w X => have H := H.ext X; v_loadA [_, _, _] rfl Tryd.isAgg23 Tryd.sizeOf23 (H.hp.get 0 rfl) rfl rfl) ?_
          obtain ⟨y99_58, hy99_58, hS⟩ := bo hS
          refine f2 (V := .agg #[.int .i64 y99_58.k, .int .i64 y99_58.n, S y99_58.s]) [98] rfl rfl rfl rfl (fun w X => d_call [_] rfl Tryd.call13 (value_ToNum_ok (x0 := x1) hy99_58)) ?_
          refine f1 [5] rfl rfl rfl rfl (fun w X => have H := H.ext X; v_loadA [_, _, _] rfl Tryd.isAgg23 Tryd.sizeOf23 (H.hp.get 1 rfl) rfl rfl) ?_
          obtain ⟨y101_59, hy101_59, hS⟩ := bo hS
          refine f2 (V := .agg #[.int .i64 y101_59.k, .int .i64 y101_59.n, S y101_59.s]) [100] rfl rfl rfl rfl (fun w X => d_call [_] rfl Tryd.call13 (value_ToNum_ok (x0 := x2) hy101_59)) ?_
          refine f_alloc Tryd.zeroValue23 [_, _, _] rfl rfl ?_
          refine f_alloc Tryd.zeroValue23 [_, _, _] rfl rfl ?_
          refine fn_ ?_
          intro a w X hR hA
          obtain ⟨_, ⟨p9_60, rfl, hb9⟩, _, ⟨p10_61, rfl, hb10⟩, h⟩ := hR.out [0, 4, 7, 9, 10, 99, 101]
          have h : Fr 186 [(101, _), (99, _), (10, _), (9, _), (7, _), (4, _), (0, _)] a := h
          have lo9 := hA.lo' h (s := 9) rfl rfl
          have lo10 := hA.lo' h (s := 10) rfl rfl
          have ne_ := hA.ne' h (s := 9) (t := 10) rfl rfl rfl rfl rfl
          have H := H.pushF2 X hb9 lo9 hb10 lo10 ne_
          have H : HZ w0 _ _ [_, _, _, _, _] _ := H
          refine z_store h H 3 rfl rfl rfl Tryd.sizeOf23 [_, _, _] rfl rfl rfl (by simp) [_, _, _] rfl (hl' := [_, _, _, _, _]) rfl fun w H => ?_
          refine z_store h H 4 rfl rfl rfl Tryd.sizeOf23 [_, _, _] rfl rfl rfl (by simp) [_, _, _] rfl (hl' := [_, _, _, _, _]) rfl fun w H => ?_
          refine c_nil hK ?_
          refine c_seq _ (fun a w c => c) fun Q62 hN62 hO62 => ?_
          have hret62 := hO62.ret hret0
          refine c_region fun K hK => ?_
          refine st1 h rfl rfl rfl (v_fieldAddr rfl Tryd.underlying23 rfl Tryd.sizeOf3 rfl rfl) fun a h => ?_
          refine st1 h rfl rfl rfl (v_load1 rfl Tryd.isAgg3 (H.hp.get 3 rfl) rfl) fun a h => ?_
          obtain ⟨z104_63, ez104_63, hS⟩ := bv hS
          refine st1 h rfl rfl rfl (vB ez104_63 (v_eq rfl rfl)) fun a h => ?_
          refine st1 h rfl rfl rfl (v_move rfl) fun a h => ?_
          refine st_g h rfl rfl (gF rfl) rfl rfl (fun e0 => v_fieldAddr rfl Tryd.underlying23 rfl Tryd.sizeOf3 rfl rfl) fun a h => ?_
          refine st_g h rfl rfl (gF rfl) rfl rfl (fun e0 => v_load1 (eg e0 rfl) Tryd.isAgg3 (H.hp.get 4 rfl) rfl) fun a h => ?_
          obtain ⟨z108_64, ez108_64, hS⟩ := bv hS
          refine st_g h rfl rfl (gF rfl) rfl rfl (fun e0 => vB ez108_64 (v_eq (eg e0 rfl) rfl)) fun a h => ?_
          obtain ⟨z109_65, ez109_65, hS⟩ := bv hS
          refine st1 h rfl rfl rfl (vB ez109_65 (v_or rfl rfl)) fun a h => ?_
          refine c_nil hK ?_
          have h := h.only [0, 4, 7, 9, 10, 109] (l' := [(0, _), (4, _), (7, _), (9, _), (10, _), (109, _)]) rfl
          refine c_cond h rfl (fun ec66 => ?_) (fun ec66 => ?_)
          · have hS := ifT ec66 hS
            refine c_flow h (by kernel_rfl) (by kernel_rfl) ?_
            refine f1 [7] rfl rfl rfl rfl (fun w X => have H := H.ext X; v_loadA [_, _, _] rfl Tryd.isAgg23 Tryd.sizeOf23 (H.hp.get 2 rfl) rfl rfl) ?_
            obtain ⟨y111_67, hy111_67, hS⟩ := bo hS
            refine f2 (V := .agg #[.int .i64 y111_67.k, .int .i64 y111_67.n, S y111_67.s]) [] rfl rfl rfl rfl (fun w X => d_call [_] rfl Tryd.call14 (value_Fail_ok (x0 := (2 : Int)) hy111_67)) ?_
            obtain ⟨z112_68, ez112_68, hS⟩ := bv hS
            refine f1 [110, 111] rfl rfl rfl rfl (fun w X => vB ez112_68 (v_aggeq rfl rfl age23 (agq23 _ _ _ _ _ _))) ?_
            refine f1 [112] rfl rfl rfl rfl (fun w X => v_assign rfl) ?_
            refine fn_ ?_
            intro a w X hR hA
            have h := hR.out [6]
            have h : Fr 186 [(6, _)] a := h
            have H := H.ext X
            obtain rfl := so hS
            refine c_ret (hret62 _ _ (out1 h rfl rfl ?_))
            exact ⟨rfl, H.out⟩
          · have hS := ifF ec66 hS
            refine c_skip ?_
            refine hN62 _ _ ?_
            refine c_region fun K hK => ?_
            refine st1 h rfl rfl rfl (v_fieldAddr rfl Tryd.underlying23 rfl Tryd.sizeOf2 rfl rfl) fun a h => ?_
            refine st1 h rfl rfl rfl (v_load1 rfl Tryd.isAgg2 (H.hp.get 3 rfl) rfl) fun a h => ?_
            refine st1 h rfl rfl rfl (v_fieldAddr rfl Tryd.underlying23 rfl Tryd.sizeOf2 rfl rfl) fun a h => ?_
            refine st1 h rfl rfl rfl (v_load1 rfl Tryd.isAgg2 (H.hp.get 4 rfl) rfl) fun a h => ?_
            obtain ⟨y118_69, hy118_69, hS⟩ := bo hS
            refine st2v (T := Ext) (V := .tuple #[.int .i64 y118_69.1, .bool y118_69.2]) h rfl rfl rfl (d_call [_, _] rfl Tryd.call15 (num_Add_ok (x0 := y99_58.n) (x1 := y101_59.n) hy118_69)) fun w X a h => ?_
            have H := H.ext X
            refine st1 h rfl rfl rfl (v_move rfl) fun a h => ?_
            refine st1 h rfl rfl rfl (v_extract rfl rfl) fun a h => ?_
            refine st1 h rfl rfl rfl (v_extract rfl rfl) fun a h => ?_
            refine st1 h rfl rfl rfl (v_assign rfl) fun a h => ?_
            refine st1 h rfl rfl rfl (v_assign rfl) fun a h => ?_
            refine c_nil hK ?_
            have h := h.only [0, 4, 7, 9, 10, 11, 12] (l' := [(0, _), (4, _), (7, _), (9, _), (10, _), (11, _), (12, _)]) rfl
            obtain ⟨J71, eJ71, hS⟩ := bv hS
            refine c_seq (fun a w => ∃ (Z : FZ) (s71 : Int × Bool), J71 s71 = some res ∧ Fr 186 [(4, .pointer (some ⟨p4_1, 0, none⟩)), (7, .pointer (some ⟨p7_19, 0, none⟩)), (9, .pointer (some ⟨p9_60, 0, none⟩)), (11, .int .i64 s71.1), (12, .bool s71.2)] a ∧ HZ w0 Zi Z [.blk p4_1 (Cel [.int .i64 x1.k, .int .i64 x1.n, S x1.s] 23), .blk p5_2 (Cel [.int .i64 x2.k, .int .i64 x2.n, S x2.s] 23), .blk p7_19 (Cel [.int .i64 y33_18.k, .int .i64 y33_18.n, S y33_18.s] 23), .blk p9_60 (Cel [.int .i64 y99_58.k, .int .i64 y99_58.n, S y99_58.s] 23), .blk p10_61 (Cel [.int .i64 y101_59.k, .int .i64 y101_59.n, S y101_59.s] 23)] w) ?_ fun Q70 hN70 hO70 => ?_
            · rintro a w ⟨Z, s71, hS, h, H⟩
              subst eJ71
              refine c_region fun K hK => ?_
              refine st1 h rfl rfl rfl (v_fieldAddr rfl Tryd.underlying23 rfl Tryd.sizeOf2 rfl rfl) fun a h => ?_
              refine st1 h rfl rfl rfl (v_load1 rfl Tryd.isAgg2 (H.hp.get 3 rfl) rfl) fun a h => ?_
              obtain ⟨y161_72, hy161_72, hS⟩ := bo hS
              refine st2v (T := Ext) (V := .tuple #[.int .i64 y161_72.1, .bool y161_72.2]) h rfl rfl rfl (d_call [_, _] rfl Tryd.call18 (num_Quo_ok (x0 := y99_58.n) (x1 := (100000000 : Int)) hy161_72)) fun w X a h => ?_
              have H := H.ext X
              refine st1 h rfl rfl rfl (v_move rfl) fun a h => ?_
              refine st1 h rfl rfl rfl (v_extract rfl rfl) fun a h => ?_
              refine st1 h rfl rfl rfl (v_extract rfl rfl) fun a h => ?_
              refine st1 h rfl rfl rfl (v_assign rfl) fun a h => ?_
              refine st1 h rfl rfl rfl (v_assign rfl) fun a h => ?_
              refine c_nil hK ?_
              have h := h.only [4, 7, 9, 11, 12, 13, 14] (l' := [(4, _), (7, _), (9, _), (11, _), (12, _), (13, _), (14, _)]) rfl
              refine c_flow h (by kernel_rfl) (by kernel_rfl) ?_
              refine f1 [7] rfl rfl rfl rfl (fun w X => have H := H.ext X; v_loadA [_, _, _] rfl Tryd.isAgg23 Tryd.sizeOf23 (H.hp.get 2 rfl) rfl rfl) ?_
              refine f1 [11] rfl rfl rfl rfl (fun w X => v_move rfl) ?_
              refine f1 [12] rfl rfl rfl rfl (fun w X => v_move rfl) ?_
              obtain ⟨y167_73, hy167_73, hS⟩ := bo hS
              refine f2 (V := .agg #[.int .i64 y167_73.k, .int .i64 y167_73.n, S y167_73.s]) [165, 166] rfl rfl rfl rfl (fun w X => d_call [_, _] rfl Tryd.call19 (value_Made_ok (x0 := s71.1) (x1 := s71.2) hy167_73)) ?_
              obtain ⟨z168_74, ez168_74, hS⟩ := bv hS
              refine f1 [164, 167] rfl rfl rfl rfl (fun w X => vB ez168_74 (v_aggeq rfl rfl age23 (agq23 _ _ _ _ _ _))) ?_
              refine f1 [168] rfl rfl rfl rfl (fun w X => v_move rfl) ?_
              refine f_g [4, 169] rfl rfl rfl (gT rfl) rfl rfl (fun e0 w X => have H := H.ext X; v_loadA [_, _, _] rfl Tryd.isAgg23 Tryd.sizeOf23 (H.hp.get 0 rfl) rfl rfl) ?_
              obtain ⟨y171_75, hy171_75, hS⟩ := bo hS
              refine f_gd (V := .agg #[.int .i64 y171_75.k, .int .i64 y171_75.n, S y171_75.s]) [170, 169] rfl rfl rfl (gT rfl) rfl rfl (fun e0 w X => d_call [_, _] (evs_c rfl (evs_c (eg e0 rfl) evs_n)) Tryd.call20 (funcs_Unary_ok (x0 := (5 : Int)) (x1 := x1) (ifT e0 hy171_75))) ?_
              refine f_g [9, 169] rfl rfl rfl (gT rfl) rfl rfl (fun e0 w X => v_fieldAddr rfl Tryd.underlying23 rfl Tryd.sizeOf2 rfl rfl) ?_
              refine f_g [172, 169] rfl rfl rfl (gT rfl) rfl rfl (fun e0 w X => have H := H.ext X; v_load1 (eg e0 rfl) Tryd.isAgg2 (H.hp.get 3 rfl) rfl) ?_
              obtain ⟨z174_76, ez174_76, hS⟩ := bv hS
              refine f_g [173, 169] rfl rfl rfl (gT rfl) rfl rfl (fun e0 w X => vI ez174_76 (v_negw (eg e0 rfl))) ?_
              obtain ⟨y175_77, hy175_77, hS⟩ := bo hS
              refine f_gd (V := .agg #[.int .i64 y175_77.k, .int .i64 y175_77.n, S y175_77.s]) [174, 169] rfl rfl rfl (gT rfl) rfl rfl (fun e0 w X => d_call [_] (evs_c (eg e0 rfl) evs_n) Tryd.call21 (value_Num_ok (x0 := z174_76) (ifT e0 hy175_77))) ?_
              obtain ⟨z176_78, ez176_78, hS⟩ := bv hS
              refine f_g [171, 175, 169] rfl rfl rfl (gT rfl) rfl rfl (fun e0 w X => vB ez176_78 (v_aggeq (eg e0 rfl) (eg e0 rfl) age23 (agq23 _ _ _ _ _ _))) ?_
              obtain ⟨z177_79, ez177_79, hS⟩ := bv hS
              refine f1 [169, 176] rfl rfl rfl rfl (fun w X => vB ez177_79 (v_and rfl rfl)) ?_
              refine f1 [177] rfl rfl rfl rfl (fun w X => v_move rfl) ?_
              refine f_g [4, 178] rfl rfl rfl (gT rfl) rfl rfl (fun e0 w X => have H := H.ext X; v_loadA [_, _, _] rfl Tryd.isAgg23 Tryd.sizeOf23 (H.hp.get 0 rfl) rfl rfl) ?_
              obtain ⟨y180_80, hy180_80, hS⟩ := bo hS
              refine f_gd (V := .agg #[.int .i64 y180_80.k, .int .i64 y180_80.n, S y180_80.s]) [179, 178] rfl rfl rfl (gT rfl) rfl rfl (fun e0 w X => d_call [_, _] (evs_c rfl (evs_c (eg e0 rfl) evs_n)) Tryd.call20 (funcs_Unary_ok (x0 := (6 : Int)) (x1 := x1) (ifT e0 hy180_80))) ?_
              refine f_g [13, 178] rfl rfl rfl (gT rfl) rfl rfl (fun e0 w X => v_move rfl) ?_
              refine f_g [14, 178] rfl rfl rfl (gT rfl) rfl rfl (fun e0 w X => v_move rfl) ?_
              obtain ⟨y183_81, hy183_81, hS⟩ := bo hS
              refine f_gd (V := .agg #[.int .i64 y183_81.k, .int .i64 y183_81.n, S y183_81.s]) [181, 182, 178] rfl rfl rfl (gT rfl) rfl rfl (fun e0 w X => d_call [_, _] (evs_c (eg e0 rfl) (evs_c (eg e0 rfl) evs_n)) Tryd.call19 (value_Made_ok (x0 := y161_72.1) (x1 := y161_72.2) (ifT e0 hy183_81))) ?_
              obtain ⟨z184_82, ez184_82, hS⟩ := bv hS
              refine f_g [180, 183, 178] rfl rfl rfl (gT rfl) rfl rfl (fun e0 w X => vB ez184_82 (v_aggeq (eg e0 rfl) (eg e0 rfl) age23 (agq23 _ _ _ _ _ _))) ?_
              obtain ⟨z185_83, ez185_83, hS⟩ := bv hS
              refine f1 [178, 184] rfl rfl rfl rfl (fun w X => vB ez185_83 (v_and rfl rfl)) ?_
              refine f1 [185] rfl rfl rfl rfl (fun w X => v_assign rfl) ?_
              refine fn_ ?_
              intro a w X hR hA
              have h := hR.out [6]
              have h : Fr 186 [(6, _)] a := h
              have H := H.ext X
              obtain rfl := so hS
              refine c_ret (hret0 _ _ (out1 h rfl rfl ?_))
              exact ⟨rfl, H.out⟩
            · have hret70 := hO70.ret hret0
              refine c_region fun K hK => ?_
              refine st1 h rfl rfl rfl (v_move rfl) fun a h => ?_
              refine c_nil hK ?_
              refine c_lblock fun Q84 hN84 hx0_84 hO84 => ?_
              have hret84 := hO84.ret hret70
              refine c_region fun K hK => ?_
              obtain ⟨z123_85, ez123_85, hS⟩ := bv hS
              refine st1 h rfl rfl rfl (vB ez123_85 (v_eq rfl rfl)) fun a h => ?_
              refine st1 h rfl rfl rfl (v_assign rfl) fun a h => ?_
              refine c_nil hK ?_
              refine c_cond h rfl (fun ec86 => ?_) (fun ec86 => ?_)
              · have hS := ifT ec86 hS
                refine c_lregion ?_
                refine st1 h rfl rfl rfl (v_fieldAddr rfl Tryd.underlying23 rfl Tryd.sizeOf2 rfl rfl) fun a h => ?_
                refine st1 h rfl rfl rfl (v_load1 rfl Tryd.isAgg2 (H.hp.get 3 rfl) rfl) fun a h => ?_
                refine st1 h rfl rfl rfl (v_fieldAddr rfl Tryd.underlying23 rfl Tryd.sizeOf2 rfl rfl) fun a h => ?_
                refine st1 h rfl rfl rfl (v_load1 rfl Tryd.isAgg2 (H.hp.get 4 rfl) rfl) fun a h => ?_
                obtain ⟨y129_87, hy129_87, hS⟩ := bo hS
                refine st2v (T := Ext) (V := .tuple #[.int .i64 y129_87.1, .bool y129_87.2]) h rfl rfl rfl (d_call [_, _] rfl Tryd.call16 (num_Sub_ok (x0 := y99_58.n) (x1 := y101_59.n) hy129_87)) fun w X a h => ?_
                have H := H.ext X
                refine st1 h rfl rfl rfl (v_move rfl) fun a h => ?_
                refine st1 h rfl rfl rfl (v_extract rfl rfl) fun a h => ?_
                refine st1 h rfl rfl rfl (v_extract rfl rfl) fun a h => ?_
                refine st1 h rfl rfl rfl (v_assign rfl) fun a h => ?_
                refine st1 h rfl rfl rfl (v_assign rfl) fun a h => ?_
                refine c_lnil ?_
                refine hN84 _ _ ?_
                exact hN70 _ _ ⟨_, (y129_87.1, y129_87.2), hS, (h.only [4, 7, 9, 11, 12] (l' := [(4, _), (7, _), (9, _), (11, _), (12, _)]) rfl), H⟩
              · have hS := ifF ec86 hS
                refine c_region fun K hK => ?_
                obtain ⟨z133_88, ez133_88, hS⟩ := bv hS
                refine st1 h rfl rfl rfl (vB ez133_88 (v_eq rfl rfl)) fun a h => ?_
                refine st1 h rfl rfl rfl (v_assign rfl) fun a h => ?_
                refine c_nil hK ?_
                have h := h.only [4, 7, 9, 10, 11, 12, 121, 132] (l' := [(4, _), (7, _), (9, _), (10, _), (11, _), (12, _), (121, _), (132, _)]) rfl
                refine c_cond h rfl (fun ec89 => ?_) (fun ec89 => ?_)
                · have hS := ifT ec89 hS
                  refine c_lregion ?_
                  refine st1 h rfl rfl rfl (v_fieldAddr rfl Tryd.underlying23 rfl Tryd.sizeOf2 rfl rfl) fun a h => ?_
                  refine st1 h rfl rfl rfl (v_load1 rfl Tryd.isAgg2 (H.hp.get 3 rfl) rfl) fun a h => ?_
                  refine st1 h rfl rfl rfl (v_fieldAddr rfl Tryd.underlying23 rfl Tryd.sizeOf2 rfl rfl) fun a h => ?_
                  refine st1 h rfl rfl rfl (v_load1 rfl Tryd.isAgg2 (H.hp.get 4 rfl) rfl) fun a h => ?_
                  obtain ⟨y139_90, hy139_90, hS⟩ := bo hS
                  refine st2v (T := Ext) (V := .tuple #[.int .i64 y139_90.1, .bool y139_90.2]) h rfl rfl rfl (d_call [_, _] rfl Tryd.call17 (num_Mul_ok (x0 := y99_58.n) (x1 := y101_59.n) hy139_90)) fun w X a h => ?_
                  have H := H.ext X
                  refine st1 h rfl rfl rfl (v_move rfl) fun a h => ?_
                  refine st1 h rfl rfl rfl (v_extract rfl rfl) fun a h => ?_
                  refine st1 h rfl rfl rfl (v_extract rfl rfl) fun a h => ?_
                  refine st1 h rfl rfl rfl (v_assign rfl) fun a h => ?_
                  refine st1 h rfl rfl rfl (v_assign rfl) fun a h => ?_
                  refine c_lnil ?_
                  refine hN84 _ _ ?_
                  exact hN70 _ _ ⟨_, (y139_90.1, y139_90.2), hS, (h.only [4, 7, 9, 11, 12] (l' := [(4, _), (7, _), (9, _), (11, _), (12, _)]) rfl), H⟩
                · have hS := ifF ec89 hS
                  refine c_region fun K hK => ?_
                  obtain ⟨z143_91, ez143_91, hS⟩ := bv hS
                  refine st1 h rfl rfl rfl (vB ez143_91 (v_eq rfl rfl)) fun a h => ?_
                  refine st1 h rfl rfl rfl (v_assign rfl) fun a h => ?_
                  refine c_nil hK ?_
                  refine c_cond h rfl (fun ec92 => ?_) (fun ec92 => ?_)
                  · have hS := ifT ec92 hS
                    refine c_seq _ (fun a w c => c) fun Q93 hN93 hO93 => ?_
                    have hret93 := hO93.ret hret84
                    have hx0_93 := hO93.exit (i := 0) rfl hx0_84
                    refine c_region fun K hK => ?_
                    refine st1 h rfl rfl rfl (v_fieldAddr rfl Tryd.underlying23 rfl Tryd.sizeOf2 rfl rfl) fun a h => ?_
                    refine st1 h rfl rfl rfl (v_load1 rfl Tryd.isAgg2 (H.hp.get 4 rfl) rfl) fun a h => ?_
                    obtain ⟨z146_94, ez146_94, hS⟩ := bv hS
                    refine st1 h rfl rfl rfl (vB ez146_94 (v_eq rfl rfl)) fun a h => ?_
                    refine c_nil hK ?_
                    have h := h.only [4, 7, 9, 10, 146] (l' := [(4, _), (7, _), (9, _), (10, _), (146, _)]) rfl
                    refine c_cond h rfl (fun ec95 => ?_) (fun ec95 => ?_)
                    · have hS := ifT ec95 hS
                      refine c_flow h (by kernel_rfl) (by kernel_rfl) ?_
                      refine f1 [7] rfl rfl rfl rfl (fun w X => have H := H.ext X; v_loadA [_, _, _] rfl Tryd.isAgg23 Tryd.sizeOf23 (H.hp.get 2 rfl) rfl rfl) ?_
                      obtain ⟨y148_96, hy148_96, hS⟩ := bo hS
                      refine f2 (V := .agg #[.int .i64 y148_96.k, .int .i64 y148_96.n, S y148_96.s]) [] rfl rfl rfl rfl (fun w X => d_call [_] rfl Tryd.call14 (value_Fail_ok (x0 := (1 : Int)) hy148_96)) ?_
                      obtain ⟨z149_97, ez149_97, hS⟩ := bv hS
                      refine f1 [147, 148] rfl rfl rfl rfl (fun w X => vB ez149_97 (v_aggeq rfl rfl age23 (agq23 _ _ _ _ _ _))) ?_
                      refine f1 [149] rfl rfl rfl rfl (fun w X => v_assign rfl) ?_
                      refine fn_ ?_
                      intro a w X hR hA
                      have h := hR.out [6]
                      have h : Fr 186 [(6, _)] a := h
                      have H := H.ext X
                      obtain rfl := so hS
                      refine c_ret (hret93 _ _ (out1 h rfl rfl ?_))
                      exact ⟨rfl, H.out⟩
                    · have hS := ifF ec95 hS
                      refine c_skip ?_
                      refine hN93 _ _ ?_
                      refine c_lregion ?_
                      refine st1 h rfl rfl rfl (v_fieldAddr rfl Tryd.underlying23 rfl Tryd.sizeOf2 rfl rfl) fun a h => ?_
                      refine st1 h rfl rfl rfl (v_load1 rfl Tryd.isAgg2 (H.hp.get 3 rfl) rfl) fun a h => ?_
                      refine st1 h rfl rfl rfl (v_fieldAddr rfl Tryd.underlying23 rfl Tryd.sizeOf2 rfl rfl) fun a h => ?_
                      refine st1 h rfl rfl rfl (v_load1 rfl Tryd.isAgg2 (H.hp.get 4 rfl) rfl) fun a h => ?_
                      obtain ⟨y155_98, hy155_98, hS⟩ := bo hS
                      refine st2v (T := Ext) (V := .tuple #[.int .i64 y155_98.1, .bool y155_98.2]) h rfl rfl rfl (d_call [_, _] rfl Tryd.call18 (num_Quo_ok (x0 := y99_58.n) (x1 := y101_59.n) hy155_98)) fun w X a h => ?_
                      have H := H.ext X
                      refine st1 h rfl rfl rfl (v_move rfl) fun a h => ?_
                      refine st1 h rfl rfl rfl (v_extract rfl rfl) fun a h => ?_
                      refine st1 h rfl rfl rfl (v_extract rfl rfl) fun a h => ?_
                      refine st1 h rfl rfl rfl (v_assign rfl) fun a h => ?_
                      refine st1 h rfl rfl rfl (v_assign rfl) fun a h => ?_
                      refine c_lnil ?_
                      refine hN84 _ _ ?_
                      exact hN70 _ _ ⟨_, (y155_98.1, y155_98.2), hS, (h.only [4, 7, 9, 11, 12] (l' := [(4, _), (7, _), (9, _), (11, _), (12, _)]) rfl), H⟩
                  · have hS := ifF ec92 hS
                    refine c_skip ?_
                    refine hN84 _ _ ?_
                    exact hN70 _ _ ⟨_, (y118_69.1, y118_69.2), hS, (h.only [4, 7, 9, 11, 12] (l' := [(4, _), (7, _), (9, _), (11, _), (12, _)]) rfl), H⟩
end Go.Proofs.YtmfblggkgmgccaaDoor
