/- Walks: the code computes what the partial functions say. -/
import Derived.Test.YtnmkeanoidadcaaGreatDoorSpA
import Derived.Test.YtnmkeanoidadcaaGreatDoorLibC
set_option linter.unusedSimpArgs false
set_option linter.unusedVariables false
set_option linter.unusedSectionVars false
namespace Go.Proofs.YtnmkeanoidadcaaGreatDoor
open Go.Stp Go.RowKit Go.ValP Go.Sp
set_option maxRecDepth 100000
theorem value_Num_ok {x0 : Int} {res : V} {w0 : World} (hS : value_Num x0 = some res) : Calls Tryz.prog 22 [.int .i64 x0].toArray w0 (Ret fun v w => v = .agg #[.int .i64 res.k, .int .i64 res.n, S res.s] ∧ Ext w0 w) := by
 refine enter Tryz.func22 rfl rfl rfl fun Q a h hret0 hnor => ?_
 obtain ⟨Zi, Z, H⟩ : ∃ Zi Z, HZ w0 Zi Z [] w0 := ⟨_, _, HZ.start w0⟩
 have h := h.only [0] (l' := [_]) rfl
 unfold value_Num at hS
 refine c_region fun K hK => ?_
 refine z_alloc h H Tryz.zeroValue25 [_, _, _] rfl rfl fun a p2_1 w X H h => ?_
 have H : HZ w0 _ _ [_] _ := H
 refine c_nil hK ?_
 refine c_region fun K hK => ?_
 refine st1 h rfl rfl rfl (v_move rfl) fun a h => ?_
 refine st1 h rfl rfl rfl (v_build bld25 [_, _] [_, _, _] rfl rfl) fun a h => ?_
 refine z_store h H 0 rfl rfl rfl Tryz.sizeOf25 [_, _, _] rfl rfl rfl (by simp) [_, _, _] rfl (hl' := [_]) rfl fun w H => ?_
 refine c_nil hK ?_
 obtain rfl := so hS
 refine c_ret (hret0 _ _ (out1 h rfl ⟨_, rfl, run_loadVar_agg (vs := [_, _, _]) Tryz.isAgg25 Tryz.sizeOf25 (H.hp.get 0 rfl) rfl rfl⟩ ?_))
 exact ⟨rfl, H.out⟩

theorem value_Fail_ok {x0 : Int} {res : V} {w0 : World} (hS : value_Fail x0 = some res) : Calls Tryz.prog 13 [.int .i64 x0].toArray w0 (Ret fun v w => v = .agg #[.int .i64 res.k, .int .i64 res.n, S res.s] ∧ Ext w0 w) := by
 refine enter Tryz.func13 rfl rfl rfl fun Q a h hret0 hnor => ?_
 obtain ⟨Zi, Z, H⟩ : ∃ Zi Z, HZ w0 Zi Z [] w0 := ⟨_, _, HZ.start w0⟩
 have h := h.only [0] (l' := [_]) rfl
 unfold value_Fail at hS
 refine c_region fun K hK => ?_
 refine z_alloc h H Tryz.zeroValue25 [_, _, _] rfl rfl fun a p2_1 w X H h => ?_
 have H : HZ w0 _ _ [_] _ := H
 refine c_nil hK ?_
 refine c_region fun K hK => ?_
 refine st1 h rfl rfl rfl (v_move rfl) fun a h => ?_
 refine st1 h rfl rfl rfl (v_build bld25 [_, _] [_, _, _] rfl rfl) fun a h => ?_
 refine z_store h H 0 rfl rfl rfl Tryz.sizeOf25 [_, _, _] rfl rfl rfl (by simp) [_, _, _] rfl (hl' := [_]) rfl fun w H => ?_
 refine c_nil hK ?_
 obtain rfl := so hS
 refine c_ret (hret0 _ _ (out1 h rfl ⟨_, rfl, run_loadVar_agg (vs := [_, _, _]) Tryz.isAgg25 Tryz.sizeOf25 (H.hp.get 0 rfl) rfl rfl⟩ ?_))
 exact ⟨rfl, H.out⟩

theorem value_Bool_ok {x0 : Bool} {res : V} {w0 : World} (hS : value_Bool x0 = some res) : Calls Tryz.prog 24 [.bool x0].toArray w0 (Ret fun v w => v = .agg #[.int .i64 res.k, .int .i64 res.n, S res.s] ∧ Ext w0 w) := by
 refine enter Tryz.func24 rfl rfl rfl fun Q a h hret0 hnor => ?_
 obtain ⟨Zi, Z, H⟩ : ∃ Zi Z, HZ w0 Zi Z [] w0 := ⟨_, _, HZ.start w0⟩
 have h := h.only [0] (l' := [_]) rfl
 unfold value_Bool at hS
 refine c_region fun K hK => ?_
 refine z_alloc h H Tryz.zeroValue25 [_, _, _] rfl rfl fun a p2_1 w X H h => ?_
 have H : HZ w0 _ _ [_] _ := H
 refine c_nil hK ?_
 refine c_region fun K hK => ?_
 refine st1 h rfl rfl rfl (v_build bld25 [_] [_, _, _] rfl rfl) fun a h => ?_
 refine z_alloc h H Tryz.zeroValue25 [_, _, _] rfl rfl fun a p3_2 w X H h => ?_
 have H : HZ w0 _ _ [_, _] _ := H
 refine z_store h H 1 rfl rfl rfl Tryz.sizeOf25 [_, _, _] rfl rfl rfl (by simp) [_, _, _] rfl (hl' := [_, _]) rfl fun w H => ?_
 refine c_nil hK ?_
 obtain ⟨J4, eJ4, hS⟩ := bv hS
 refine c_seq (fun a w => ∃ (Z : FZ) (s4 : Int × Int × (List UInt8)), J4 s4 = some res ∧ Fr 8 [(2, .pointer (some ⟨p2_1, 0, none⟩)), (3, .pointer (some ⟨p3_2, 0, none⟩))] a ∧ HZ w0 Zi Z [.blk p2_1 (Cel [.int .i64 0, .int .i64 0, S []] 25), .blk p3_2 (Cel [.int .i64 s4.1, .int .i64 s4.2.1, S s4.2.2] 25)] w) ?_ fun Q3 hN3 hO3 => ?_
 ·
  rintro a w ⟨Z, s4, hS, h, H⟩
  subst eJ4
  refine c_region fun K hK => ?_
  refine st1 h rfl rfl rfl (v_loadA [_, _, _] rfl Tryz.isAgg25 Tryz.sizeOf25 (H.hp.get 1 rfl) rfl rfl) fun a h => ?_
  refine z_store h H 0 rfl rfl rfl Tryz.sizeOf25 [_, _, _] rfl rfl rfl (by simp) [_, _, _] rfl (hl' := [_, _]) rfl fun w H => ?_
  refine c_nil hK ?_
  obtain rfl := so hS
  refine c_ret (hret0 _ _ (out1 h rfl ⟨_, rfl, run_loadVar_agg (vs := [_, _, _]) Tryz.isAgg25 Tryz.sizeOf25 (H.hp.get 0 rfl) rfl rfl⟩ ?_))
  exact ⟨rfl, H.out⟩
 ·
  have hret3 := hO3.ret hret0
  refine c_region fun K hK => ?_
  refine st1 h rfl rfl rfl (v_move rfl) fun a h => ?_
  refine c_nil hK ?_
  refine c_cond h rfl (fun ec5 => ?_) (fun ec5 => ?_)
  ·
   have hS := ifT ec5 hS
   refine c_lregion ?_
   refine st1 h rfl rfl rfl (v_fieldAddr rfl Tryz.underlying25 rfl Tryz.sizeOf2 rfl rfl) fun a h => ?_
   refine z_store h H 1 rfl rfl rfl Tryz.sizeOf2 [_] rfl rfl rfl (by simp) [_, _, _] rfl (hl' := [_, _]) rfl fun w H => ?_
   refine c_lnil ?_
   exact hN3 _ _ ⟨_, (3, 1, []), hS, (h.only [2, 3] (l' := [_, _]) rfl), H⟩
  ·
   have hS := ifF ec5 hS
   refine c_skip ?_
   exact hN3 _ _ ⟨_, (3, 0, []), hS, (h.only [2, 3] (l' := [_, _]) rfl), H⟩

theorem value_Text_ok {x0 : List UInt8} {res : V} {w0 : World} (hS : value_Text x0 = some res) : Calls Tryz.prog 25 [S x0].toArray w0 (Ret fun v w => v = .agg #[.int .i64 res.k, .int .i64 res.n, S res.s] ∧ Ext w0 w) := by
 refine enter Tryz.func25 rfl rfl rfl fun Q a h hret0 hnor => ?_
 obtain ⟨Zi, Z, H⟩ : ∃ Zi Z, HZ w0 Zi Z [] w0 := ⟨_, _, HZ.start w0⟩
 have h := h.only [0] (l' := [_]) rfl
 unfold value_Text at hS
 refine c_region fun K hK => ?_
 refine z_alloc h H Tryz.zeroValue25 [_, _, _] rfl rfl fun a p2_1 w X H h => ?_
 have H : HZ w0 _ _ [_] _ := H
 refine c_nil hK ?_
 refine c_seq _ (fun a w c => c) fun Q2 hN2 hO2 => ?_
 have hret2 := hO2.ret hret0
 refine c_region fun K hK => ?_
 refine st1 h rfl rfl rfl (v_move rfl) fun a h => ?_
 refine st1 h rfl rfl rfl (v_slen Tryz.underlying9 rfl) fun a h => ?_
 obtain ⟨z5_3, ez5_3, hS⟩ := bv hS
 refine st1 h rfl rfl rfl (vB ez5_3 (v_gt rfl rfl)) fun a h => ?_
 refine c_nil hK ?_
 refine c_cond h rfl (fun ec4 => ?_) (fun ec4 => ?_)
 ·
  have hS := ifT ec4 hS
  refine c_region fun K hK => ?_
  obtain ⟨y6_5, hy6_5, hS⟩ := bo hS
  refine st2v (T := Ext) (V := .agg #[.int .i64 y6_5.k, .int .i64 y6_5.n, S y6_5.s]) h rfl rfl rfl (d_call [_] rfl Tryz.call13 (value_Fail_ok (x0 := (2 : Int)) hy6_5)) fun w X a h => ?_
  have H := H.ext X
  refine z_store h H 0 rfl rfl rfl Tryz.sizeOf25 [_, _, _] rfl rfl rfl (by simp) [_, _, _] rfl (hl' := [_]) rfl fun w H => ?_
  refine c_nil hK ?_
  have h := h.only [2] (l' := [_]) rfl
  obtain rfl := so hS
  refine c_ret (hret2 _ _ (out1 h rfl ⟨_, rfl, run_loadVar_agg (vs := [_, _, _]) Tryz.isAgg25 Tryz.sizeOf25 (H.hp.get 0 rfl) rfl rfl⟩ ?_))
  exact ⟨rfl, H.out⟩
 ·
  have hS := ifF ec4 hS
  refine c_skip ?_
  refine hN2 _ _ ?_
  refine c_region fun K hK => ?_
  refine st1 h rfl rfl rfl (v_move rfl) fun a h => ?_
  refine st1 h rfl rfl rfl (v_build bld25 [_, _] [_, _, _] rfl rfl) fun a h => ?_
  refine z_store h H 0 rfl rfl rfl Tryz.sizeOf25 [_, _, _] rfl rfl rfl (by simp) [_, _, _] rfl (hl' := [_]) rfl fun w H => ?_
  refine c_nil hK ?_
  have h := h.only [2] (l' := [_]) rfl
  obtain rfl := so hS
  refine c_ret (hret0 _ _ (out1 h rfl ⟨_, rfl, run_loadVar_agg (vs := [_, _, _]) Tryz.isAgg25 Tryz.sizeOf25 (H.hp.get 0 rfl) rfl rfl⟩ ?_))
  exact ⟨rfl, H.out⟩

theorem value_Made_ok {x0 : Int} {x1 : Bool} {res : V} {w0 : World} (hS : value_Made x0 x1 = some res) : Calls Tryz.prog 35 [.int .i64 x0, .bool x1].toArray w0 (Ret fun v w => v = .agg #[.int .i64 res.k, .int .i64 res.n, S res.s] ∧ Ext w0 w) := by
 refine enter Tryz.func35 rfl rfl rfl fun Q a h hret0 hnor => ?_
 obtain ⟨Zi, Z, H⟩ : ∃ Zi Z, HZ w0 Zi Z [] w0 := ⟨_, _, HZ.start w0⟩
 have h := h.only [0, 1] (l' := [_, _]) rfl
 unfold value_Made at hS
 refine c_region fun K hK => ?_
 refine z_alloc h H Tryz.zeroValue25 [_, _, _] rfl rfl fun a p4_1 w X H h => ?_
 have H : HZ w0 _ _ [_] _ := H
 refine c_nil hK ?_
 refine c_seq _ (fun a w c => c) fun Q2 hN2 hO2 => ?_
 have hret2 := hO2.ret hret0
 refine c_region fun K hK => ?_
 refine st1 h rfl rfl rfl (v_move rfl) fun a h => ?_
 obtain ⟨z6_3, ez6_3, hS⟩ := bv hS
 refine st1 h rfl rfl rfl (vB ez6_3 (v_not rfl)) fun a h => ?_
 refine c_nil hK ?_
 refine c_cond h rfl (fun ec4 => ?_) (fun ec4 => ?_)
 ·
  have hS := ifT ec4 hS
  refine c_region fun K hK => ?_
  obtain ⟨y7_5, hy7_5, hS⟩ := bo hS
  refine st2v (T := Ext) (V := .agg #[.int .i64 y7_5.k, .int .i64 y7_5.n, S y7_5.s]) h rfl rfl rfl (d_call [_] rfl Tryz.call13 (value_Fail_ok (x0 := (5 : Int)) hy7_5)) fun w X a h => ?_
  have H := H.ext X
  refine z_store h H 0 rfl rfl rfl Tryz.sizeOf25 [_, _, _] rfl rfl rfl (by simp) [_, _, _] rfl (hl' := [_]) rfl fun w H => ?_
  refine c_nil hK ?_
  have h := h.only [4] (l' := [_]) rfl
  obtain rfl := so hS
  refine c_ret (hret2 _ _ (out1 h rfl ⟨_, rfl, run_loadVar_agg (vs := [_, _, _]) Tryz.isAgg25 Tryz.sizeOf25 (H.hp.get 0 rfl) rfl rfl⟩ ?_))
  exact ⟨rfl, H.out⟩
 ·
  have hS := ifF ec4 hS
  refine c_skip ?_
  refine hN2 _ _ ?_
  refine c_region fun K hK => ?_
  refine st1 h rfl rfl rfl (v_move rfl) fun a h => ?_
  obtain ⟨y9_6, hy9_6, hS⟩ := bo hS
  refine st2v (T := Ext) (V := .agg #[.int .i64 y9_6.k, .int .i64 y9_6.n, S y9_6.s]) h rfl rfl rfl (d_call [_] rfl Tryz.call22 (value_Num_ok (x0 := x0) hy9_6)) fun w X a h => ?_
  have H := H.ext X
  refine z_store h H 0 rfl rfl rfl Tryz.sizeOf25 [_, _, _] rfl rfl rfl (by simp) [_, _, _] rfl (hl' := [_]) rfl fun w H => ?_
  refine c_nil hK ?_
  have h := h.only [4] (l' := [_]) rfl
  obtain rfl := so hS
  refine c_ret (hret0 _ _ (out1 h rfl ⟨_, rfl, run_loadVar_agg (vs := [_, _, _]) Tryz.isAgg25 Tryz.sizeOf25 (H.hp.get 0 rfl) rfl rfl⟩ ?_))
  exact ⟨rfl, H.out⟩

theorem value_Right_ok {x0 : V} {res : Bool} {w0 : World} (hS : value_Right x0 = some res) : Calls Tryz.prog 11 [.agg #[.int .i64 x0.k, .int .i64 x0.n, S x0.s]].toArray w0 (Ret fun v w => v = .bool res ∧ Ext w0 w) := by
 refine enter Tryz.func11 rfl rfl rfl fun Q a h hret0 hnor => ?_
 obtain ⟨Zi, Z, H⟩ : ∃ Zi Z, HZ w0 Zi Z [] w0 := ⟨_, _, HZ.start w0⟩
 have h := h.only [0] (l' := [_]) rfl
 unfold value_Right at hS
 refine c_region fun K hK => ?_
 refine z_box h H rfl [_, _, _] rfl rfl fun a p1_1 w X H h => ?_
 have H : HZ w0 _ _ [_] _ := H
 refine st1 h rfl rfl rfl (v_assign rfl) fun a h => ?_
 refine c_nil hK ?_
 refine c_seq _ (fun a w c => c) fun Q2 hN2 hO2 => ?_
 have hret2 := hO2.ret hret0
 refine c_region fun K hK => ?_
 refine st1 h rfl rfl rfl (v_fieldAddr rfl Tryz.underlying25 rfl Tryz.sizeOf3 rfl rfl) fun a h => ?_
 refine st1 h rfl rfl rfl (v_load1 rfl Tryz.isAgg3 (H.hp.get 0 rfl) rfl) fun a h => ?_
 refine c_nil hK ?_
 refine c_lblock fun Q3 hN3 hx0_3 hO3 => ?_
 have hret3 := hO3.ret hret2
 refine c_region fun K hK => ?_
 obtain ⟨z6_4, ez6_4, hS⟩ := bv hS
 refine st1 h rfl rfl rfl (vB ez6_4 (v_eq rfl rfl)) fun a h => ?_
 refine st1 h rfl rfl rfl (v_assign rfl) fun a h => ?_
 refine c_nil hK ?_
 have h := h.only [1, 4, 5] (l' := [_, _, _]) rfl
 refine c_cond h rfl (fun ec5 => ?_) (fun ec5 => ?_)
 ·
  have hS := ifT ec5 hS
  refine c_region fun K hK => ?_
  refine st1 h rfl rfl rfl (v_fieldAddr rfl Tryz.underlying25 rfl Tryz.sizeOf2 rfl rfl) fun a h => ?_
  refine st1 h rfl rfl rfl (v_load1 rfl Tryz.isAgg2 (H.hp.get 0 rfl) rfl) fun a h => ?_
  obtain ⟨z9_6, ez9_6, hS⟩ := bv hS
  refine st1 h rfl rfl rfl (vB ez9_6 (v_eq rfl rfl)) fun a h => ?_
  refine st1 h rfl rfl rfl (v_move rfl) fun a h => ?_
  refine st_g h rfl rfl (gT rfl) rfl rfl (fun e0 => v_fieldAddr rfl Tryz.underlying25 rfl Tryz.sizeOf9 rfl rfl) fun a h => ?_
  refine st_g h rfl rfl (gT rfl) rfl rfl (fun e0 => v_load1 (eg e0 rfl) Tryz.isAgg9 (H.hp.get 0 rfl) rfl) fun a h => ?_
  obtain ⟨z13_7, ez13_7, hS⟩ := bv hS
  refine st_g h rfl rfl (gT rfl) rfl rfl (fun e0 => vB ez13_7 (v_seq (eg e0 rfl) rfl)) fun a h => ?_
  obtain ⟨z14_8, ez14_8, hS⟩ := bv hS
  refine st1 h rfl rfl rfl (vB ez14_8 (v_and rfl rfl)) fun a h => ?_
  refine st1 h rfl rfl rfl (v_assign rfl) fun a h => ?_
  refine c_nil hK ?_
  have h := h.only [2] (l' := [_]) rfl
  obtain rfl := so hS
  refine c_ret (hret3 _ _ (out1 h rfl rfl ?_))
  exact ⟨rfl, H.out⟩
 ·
  have hS := ifF ec5 hS
  refine c_region fun K hK => ?_
  obtain ⟨z16_9, ez16_9, hS⟩ := bv hS
  refine st1 h rfl rfl rfl (vB ez16_9 (v_eq rfl rfl)) fun a h => ?_
  refine st1 h rfl rfl rfl (v_assign rfl) fun a h => ?_
  refine c_nil hK ?_
  refine c_cond h rfl (fun ec10 => ?_) (fun ec10 => ?_)
  ·
   have hS := ifT ec10 hS
   refine c_region fun K hK => ?_
   refine st1 h rfl rfl rfl (v_fieldAddr rfl Tryz.underlying25 rfl Tryz.sizeOf2 rfl rfl) fun a h => ?_
   refine st1 h rfl rfl rfl (v_load1 rfl Tryz.isAgg2 (H.hp.get 0 rfl) rfl) fun a h => ?_
   obtain ⟨z19_11, ez19_11, hS⟩ := bv hS
   refine st1 h rfl rfl rfl (vB ez19_11 (v_ne rfl rfl)) fun a h => ?_
   refine st1 h rfl rfl rfl (v_move rfl) fun a h => ?_
   refine st_g h rfl rfl (gT rfl) rfl rfl (fun e0 => v_fieldAddr rfl Tryz.underlying25 rfl Tryz.sizeOf9 rfl rfl) fun a h => ?_
   refine st_g h rfl rfl (gT rfl) rfl rfl (fun e0 => v_load1 (eg e0 rfl) Tryz.isAgg9 (H.hp.get 0 rfl) rfl) fun a h => ?_
   obtain ⟨z23_12, ez23_12, hS⟩ := bv hS
   refine st_g h rfl rfl (gT rfl) rfl rfl (fun e0 => vB ez23_12 (v_seq (eg e0 rfl) rfl)) fun a h => ?_
   obtain ⟨z24_13, ez24_13, hS⟩ := bv hS
   refine st1 h rfl rfl rfl (vB ez24_13 (v_and rfl rfl)) fun a h => ?_
   refine st1 h rfl rfl rfl (v_assign rfl) fun a h => ?_
   refine c_nil hK ?_
   have h := h.only [2] (l' := [_]) rfl
   obtain rfl := so hS
   refine c_ret (hret3 _ _ (out1 h rfl rfl ?_))
   exact ⟨rfl, H.out⟩
  ·
   have hS := ifF ec10 hS
   refine c_region fun K hK => ?_
   obtain ⟨z26_14, ez26_14, hS⟩ := bv hS
   refine st1 h rfl rfl rfl (vB ez26_14 (v_eq rfl rfl)) fun a h => ?_
   refine st1 h rfl rfl rfl (v_assign rfl) fun a h => ?_
   refine c_nil hK ?_
   have h := h.only [1, 4, 25] (l' := [_, _, _]) rfl
   refine c_cond h rfl (fun ec15 => ?_) (fun ec15 => ?_)
   ·
    have hS := ifT ec15 hS
    refine c_region fun K hK => ?_
    refine st1 h rfl rfl rfl (v_fieldAddr rfl Tryz.underlying25 rfl Tryz.sizeOf2 rfl rfl) fun a h => ?_
    refine st1 h rfl rfl rfl (v_load1 rfl Tryz.isAgg2 (H.hp.get 0 rfl) rfl) fun a h => ?_
    obtain ⟨z29_16, ez29_16, hS⟩ := bv hS
    refine st1 h rfl rfl rfl (vB ez29_16 (v_eq rfl rfl)) fun a h => ?_
    refine st1 h rfl rfl rfl (v_move rfl) fun a h => ?_
    refine st_g h rfl rfl (gT rfl) rfl rfl (fun e0 => v_fieldAddr rfl Tryz.underlying25 rfl Tryz.sizeOf9 rfl rfl) fun a h => ?_
    refine st_g h rfl rfl (gT rfl) rfl rfl (fun e0 => v_load1 (eg e0 rfl) Tryz.isAgg9 (H.hp.get 0 rfl) rfl) fun a h => ?_
    refine st_g h rfl rfl (gT rfl) rfl rfl (fun e0 => v_slen Tryz.underlying9 (eg e0 rfl)) fun a h => ?_
    obtain ⟨z34_17, ez34_17, hS⟩ := bv hS
    refine st_g h rfl rfl (gT rfl) rfl rfl (fun e0 => vB ez34_17 (v_le (eg e0 rfl) rfl)) fun a h => ?_
    obtain ⟨z35_18, ez35_18, hS⟩ := bv hS
    refine st1 h rfl rfl rfl (vB ez35_18 (v_and rfl rfl)) fun a h => ?_
    refine st1 h rfl rfl rfl (v_assign rfl) fun a h => ?_
    refine c_nil hK ?_
    have h := h.only [2] (l' := [_]) rfl
    obtain rfl := so hS
    refine c_ret (hret3 _ _ (out1 h rfl rfl ?_))
    exact ⟨rfl, H.out⟩
   ·
    have hS := ifF ec15 hS
    refine c_region fun K hK => ?_
    obtain ⟨z37_19, ez37_19, hS⟩ := bv hS
    refine st1 h rfl rfl rfl (vB ez37_19 (v_eq rfl rfl)) fun a h => ?_
    refine st1 h rfl rfl rfl (v_assign rfl) fun a h => ?_
    refine c_nil hK ?_
    refine c_cond h rfl (fun ec20 => ?_) (fun ec20 => ?_)
    ·
     have hS := ifT ec20 hS
     refine c_region fun K hK => ?_
     refine st1 h rfl rfl rfl (v_fieldAddr rfl Tryz.underlying25 rfl Tryz.sizeOf2 rfl rfl) fun a h => ?_
     refine st1 h rfl rfl rfl (v_load1 rfl Tryz.isAgg2 (H.hp.get 0 rfl) rfl) fun a h => ?_
     obtain ⟨z40_21, ez40_21, hS⟩ := bv hS
     refine st1 h rfl rfl rfl (vI ez40_21 (v_bits_and rfl rfl)) fun a h => ?_
     refine st1 h rfl rfl rfl (v_fieldAddr rfl Tryz.underlying25 rfl Tryz.sizeOf2 rfl rfl) fun a h => ?_
     refine st1 h rfl rfl rfl (v_load1 rfl Tryz.isAgg2 (H.hp.get 0 rfl) rfl) fun a h => ?_
     obtain ⟨z43_22, ez43_22, hS⟩ := bv hS
     refine st1 h rfl rfl rfl (vB ez43_22 (v_eq rfl rfl)) fun a h => ?_
     refine st1 h rfl rfl rfl (v_move rfl) fun a h => ?_
     refine st_g h rfl rfl (gT rfl) rfl rfl (fun e0 => v_fieldAddr rfl Tryz.underlying25 rfl Tryz.sizeOf9 rfl rfl) fun a h => ?_
     refine st_g h rfl rfl (gT rfl) rfl rfl (fun e0 => v_load1 (eg e0 rfl) Tryz.isAgg9 (H.hp.get 0 rfl) rfl) fun a h => ?_
     obtain ⟨z47_23, ez47_23, hS⟩ := bv hS
     refine st_g h rfl rfl (gT rfl) rfl rfl (fun e0 => vB ez47_23 (v_seq (eg e0 rfl) rfl)) fun a h => ?_
     obtain ⟨z48_24, ez48_24, hS⟩ := bv hS
     refine st1 h rfl rfl rfl (vB ez48_24 (v_and rfl rfl)) fun a h => ?_
     refine st1 h rfl rfl rfl (v_assign rfl) fun a h => ?_
     refine c_nil hK ?_
     have h := h.only [2] (l' := [_]) rfl
     obtain rfl := so hS
     refine c_ret (hret3 _ _ (out1 h rfl rfl ?_))
     exact ⟨rfl, H.out⟩
    ·
     have hS := ifF ec20 hS
     refine c_region fun K hK => ?_
     obtain ⟨z50_25, ez50_25, hS⟩ := bv hS
     refine st1 h rfl rfl rfl (vB ez50_25 (v_eq rfl rfl)) fun a h => ?_
     refine st1 h rfl rfl rfl (v_assign rfl) fun a h => ?_
     refine c_nil hK ?_
     have h := h.only [1, 49] (l' := [_, _]) rfl
     refine c_cond h rfl (fun ec26 => ?_) (fun ec26 => ?_)
     ·
      have hS := ifT ec26 hS
      refine c_region fun K hK => ?_
      refine st1 h rfl rfl rfl (v_fieldAddr rfl Tryz.underlying25 rfl Tryz.sizeOf2 rfl rfl) fun a h => ?_
      refine st1 h rfl rfl rfl (v_load1 rfl Tryz.isAgg2 (H.hp.get 0 rfl) rfl) fun a h => ?_
      obtain ⟨z53_27, ez53_27, hS⟩ := bv hS
      refine st1 h rfl rfl rfl (vB ez53_27 (v_ge rfl rfl)) fun a h => ?_
      refine st1 h rfl rfl rfl (v_move rfl) fun a h => ?_
      refine st_g h rfl rfl (gT rfl) rfl rfl (fun e0 => v_fieldAddr rfl Tryz.underlying25 rfl Tryz.sizeOf2 rfl rfl) fun a h => ?_
      refine st_g h rfl rfl (gT rfl) rfl rfl (fun e0 => v_load1 (eg e0 rfl) Tryz.isAgg2 (H.hp.get 0 rfl) rfl) fun a h => ?_
      obtain ⟨z57_28, ez57_28, hS⟩ := bv hS
      refine st_g h rfl rfl (gT rfl) rfl rfl (fun e0 => vB ez57_28 (v_le (eg e0 rfl) rfl)) fun a h => ?_
      obtain ⟨z58_29, ez58_29, hS⟩ := bv hS
      refine st1 h rfl rfl rfl (vB ez58_29 (v_and rfl rfl)) fun a h => ?_
      refine st1 h rfl rfl rfl (v_move rfl) fun a h => ?_
      refine st_g h rfl rfl (gT rfl) rfl rfl (fun e0 => v_fieldAddr rfl Tryz.underlying25 rfl Tryz.sizeOf9 rfl rfl) fun a h => ?_
      refine st_g h rfl rfl (gT rfl) rfl rfl (fun e0 => v_load1 (eg e0 rfl) Tryz.isAgg9 (H.hp.get 0 rfl) rfl) fun a h => ?_
      obtain ⟨z62_30, ez62_30, hS⟩ := bv hS
      refine st_g h rfl rfl (gT rfl) rfl rfl (fun e0 => vB ez62_30 (v_seq (eg e0 rfl) rfl)) fun a h => ?_
      obtain ⟨z63_31, ez63_31, hS⟩ := bv hS
      refine st1 h rfl rfl rfl (vB ez63_31 (v_and rfl rfl)) fun a h => ?_
      refine st1 h rfl rfl rfl (v_assign rfl) fun a h => ?_
      refine c_nil hK ?_
      have h := h.only [2] (l' := [_]) rfl
      obtain rfl := so hS
      refine c_ret (hret3 _ _ (out1 h rfl rfl ?_))
      exact ⟨rfl, H.out⟩
     ·
      have hS := ifF ec26 hS
      refine c_skip ?_
      refine hN3 _ _ ?_
      refine hN2 _ _ ?_
      refine c_region fun K hK => ?_
      refine st1 h rfl rfl rfl (v_assign rfl) fun a h => ?_
      refine c_nil hK ?_
      obtain rfl := so hS
      refine c_ret (hret0 _ _ (out1 h rfl rfl ?_))
      exact ⟨rfl, H.out⟩

theorem value_like_ok {x0 : V} {x1 : V} {res : V} {w0 : World} (hS : value_like x0 x1 = some res) : Calls Tryz.prog 87 [.agg #[.int .i64 x0.k, .int .i64 x0.n, S x0.s], .agg #[.int .i64 x1.k, .int .i64 x1.n, S x1.s]].toArray w0 (Ret fun v w => v = .agg #[.int .i64 res.k, .int .i64 res.n, S res.s] ∧ Ext w0 w) := by
 refine enter Tryz.func87 rfl rfl rfl fun Q a h hret0 hnor => ?_
 obtain ⟨Zi, Z, H⟩ : ∃ Zi Z, HZ w0 Zi Z [] w0 := ⟨_, _, HZ.start w0⟩
 have h := h.only [0, 1] (l' := [_, _]) rfl
 unfold value_like at hS
 refine c_region fun K hK => ?_
 refine z_box h H rfl [_, _, _] rfl rfl fun a p2_1 w X H h => ?_
 have H : HZ w0 _ _ [_] _ := H
 refine z_box h H rfl [_, _, _] rfl rfl fun a p3_2 w X H h => ?_
 have H : HZ w0 _ _ [_, _] _ := H
 refine z_alloc h H Tryz.zeroValue25 [_, _, _] rfl rfl fun a p4_3 w X H h => ?_
 have H : HZ w0 _ _ [_, _, _] _ := H
 refine c_nil hK ?_
 refine c_seq _ (fun a w c => c) fun Q4 hN4 hO4 => ?_
 have hret4 := hO4.ret hret0
 refine c_region fun K hK => ?_
 refine st1 h rfl rfl rfl (v_fieldAddr rfl Tryz.underlying25 rfl Tryz.sizeOf3 rfl rfl) fun a h => ?_
 refine st1 h rfl rfl rfl (v_load1 rfl Tryz.isAgg3 (H.hp.get 0 rfl) rfl) fun a h => ?_
 obtain ⟨z7_5, ez7_5, hS⟩ := bv hS
 refine st1 h rfl rfl rfl (vB ez7_5 (v_ne rfl rfl)) fun a h => ?_
 refine c_nil hK ?_
 have h := h.only [2, 3, 4, 7] (l' := [_, _, _, _]) rfl
 refine c_cond h rfl (fun ec6 => ?_) (fun ec6 => ?_)
 ·
  have hS := ifT ec6 hS
  refine c_region fun K hK => ?_
  refine st1 h rfl rfl rfl (v_loadA [_, _, _] rfl Tryz.isAgg25 Tryz.sizeOf25 (H.hp.get 0 rfl) rfl rfl) fun a h => ?_
  refine z_store h H 2 rfl rfl rfl Tryz.sizeOf25 [_, _, _] rfl rfl rfl (by simp) [_, _, _] rfl (hl' := [_, _, _]) rfl fun w H => ?_
  refine c_nil hK ?_
  have h := h.only [4] (l' := [_]) rfl
  obtain rfl := so hS
  refine c_ret (hret4 _ _ (out1 h rfl ⟨_, rfl, run_loadVar_agg (vs := [_, _, _]) Tryz.isAgg25 Tryz.sizeOf25 (H.hp.get 2 rfl) rfl rfl⟩ ?_))
  exact ⟨rfl, H.out⟩
 ·
  have hS := ifF ec6 hS
  refine c_skip ?_
  refine hN4 _ _ ?_
  refine c_seq _ (fun a w c => c) fun Q7 hN7 hO7 => ?_
  have hret7 := hO7.ret hret0
  refine c_region fun K hK => ?_
  refine st1 h rfl rfl rfl (v_fieldAddr rfl Tryz.underlying25 rfl Tryz.sizeOf3 rfl rfl) fun a h => ?_
  refine st1 h rfl rfl rfl (v_load1 rfl Tryz.isAgg3 (H.hp.get 1 rfl) rfl) fun a h => ?_
  refine c_nil hK ?_
  have h := h.only [4, 10] (l' := [_, _]) rfl
  refine c_lblock fun Q8 hN8 hx0_8 hO8 => ?_
  have hret8 := hO8.ret hret7
  refine c_region fun K hK => ?_
  obtain ⟨z12_9, ez12_9, hS⟩ := bv hS
  refine st1 h rfl rfl rfl (vB ez12_9 (v_eq rfl rfl)) fun a h => ?_
  refine st1 h rfl rfl rfl (v_assign rfl) fun a h => ?_
  refine c_nil hK ?_
  refine c_cond h rfl (fun ec10 => ?_) (fun ec10 => ?_)
  ·
   have hS := ifT ec10 hS
   refine c_region fun K hK => ?_
   obtain ⟨y13_11, hy13_11, hS⟩ := bo hS
   refine st2v (T := Ext) (V := .agg #[.int .i64 y13_11.k, .int .i64 y13_11.n, S y13_11.s]) h rfl rfl rfl (d_call [_] rfl Tryz.call25 (value_Text_ok (x0 := []) hy13_11)) fun w X a h => ?_
   have H := H.ext X
   refine z_store h H 2 rfl rfl rfl Tryz.sizeOf25 [_, _, _] rfl rfl rfl (by simp) [_, _, _] rfl (hl' := [_, _, _]) rfl fun w H => ?_
   refine c_nil hK ?_
   have h := h.only [4] (l' := [_]) rfl
   obtain rfl := so hS
   refine c_ret (hret8 _ _ (out1 h rfl ⟨_, rfl, run_loadVar_agg (vs := [_, _, _]) Tryz.isAgg25 Tryz.sizeOf25 (H.hp.get 2 rfl) rfl rfl⟩ ?_))
   exact ⟨rfl, H.out⟩
  ·
   have hS := ifF ec10 hS
   refine c_region fun K hK => ?_
   obtain ⟨z15_12, ez15_12, hS⟩ := bv hS
   refine st1 h rfl rfl rfl (vB ez15_12 (v_eq rfl rfl)) fun a h => ?_
   refine st1 h rfl rfl rfl (v_assign rfl) fun a h => ?_
   refine c_nil hK ?_
   have h := h.only [4, 14] (l' := [_, _]) rfl
   refine c_cond h rfl (fun ec13 => ?_) (fun ec13 => ?_)
   ·
    have hS := ifT ec13 hS
    refine c_region fun K hK => ?_
    obtain ⟨y16_14, hy16_14, hS⟩ := bo hS
    refine st2v (T := Ext) (V := .agg #[.int .i64 y16_14.k, .int .i64 y16_14.n, S y16_14.s]) h rfl rfl rfl (d_call [_] rfl Tryz.call24 (value_Bool_ok (x0 := false) hy16_14)) fun w X a h => ?_
    have H := H.ext X
    refine z_store h H 2 rfl rfl rfl Tryz.sizeOf25 [_, _, _] rfl rfl rfl (by simp) [_, _, _] rfl (hl' := [_, _, _]) rfl fun w H => ?_
    refine c_nil hK ?_
    obtain rfl := so hS
    refine c_ret (hret8 _ _ (out1 h rfl ⟨_, rfl, run_loadVar_agg (vs := [_, _, _]) Tryz.isAgg25 Tryz.sizeOf25 (H.hp.get 2 rfl) rfl rfl⟩ ?_))
    exact ⟨rfl, H.out⟩
   ·
    have hS := ifF ec13 hS
    refine c_skip ?_
    refine hN8 _ _ ?_
    refine hN7 _ _ ?_
    refine c_region fun K hK => ?_
    obtain ⟨y17_15, hy17_15, hS⟩ := bo hS
    refine st2v (T := Ext) (V := .agg #[.int .i64 y17_15.k, .int .i64 y17_15.n, S y17_15.s]) h rfl rfl rfl (d_call [_] rfl Tryz.call22 (value_Num_ok (x0 := (0 : Int)) hy17_15)) fun w X a h => ?_
    have H := H.ext X
    refine z_store h H 2 rfl rfl rfl Tryz.sizeOf25 [_, _, _] rfl rfl rfl (by simp) [_, _, _] rfl (hl' := [_, _, _]) rfl fun w H => ?_
    refine c_nil hK ?_
    obtain rfl := so hS
    refine c_ret (hret0 _ _ (out1 h rfl ⟨_, rfl, run_loadVar_agg (vs := [_, _, _]) Tryz.isAgg25 Tryz.sizeOf25 (H.hp.get 2 rfl) rfl rfl⟩ ?_))
    exact ⟨rfl, H.out⟩

theorem value_rank_ok {x0 : V} {res : Int} {w0 : World} (hS : value_rank x0 = some res) : Calls Tryz.prog 88 [.agg #[.int .i64 x0.k, .int .i64 x0.n, S x0.s]].toArray w0 (Ret fun v w => v = .int .i64 res ∧ Ext w0 w) := by
 refine enter Tryz.func88 rfl rfl rfl fun Q a h hret0 hnor => ?_
 obtain ⟨Zi, Z, H⟩ : ∃ Zi Z, HZ w0 Zi Z [] w0 := ⟨_, _, HZ.start w0⟩
 have h := h.only [0] (l' := [_]) rfl
 unfold value_rank at hS
 refine c_region fun K hK => ?_
 refine z_box h H rfl [_, _, _] rfl rfl fun a p1_1 w X H h => ?_
 have H : HZ w0 _ _ [_] _ := H
 refine st1 h rfl rfl rfl (v_assign rfl) fun a h => ?_
 refine c_nil hK ?_
 refine c_region fun K hK => ?_
 refine st1 h rfl rfl rfl (v_fieldAddr rfl Tryz.underlying25 rfl Tryz.sizeOf3 rfl rfl) fun a h => ?_
 refine st1 h rfl rfl rfl (v_load1 rfl Tryz.isAgg3 (H.hp.get 0 rfl) rfl) fun a h => ?_
 refine st1 h rfl rfl rfl (v_assign rfl) fun a h => ?_
 refine c_nil hK ?_
 have h := h.only [2] (l' := [_]) rfl
 obtain rfl := so hS
 refine c_ret (hret0 _ _ (out1 h rfl rfl ?_))
 exact ⟨rfl, H.out⟩

theorem num_fits_ok {x0 : Int} {res : Bool} {w0 : World} (hS : num_fits x0 = some res) : Calls Tryz.prog 90 [.int .i64 x0].toArray w0 (Ret fun v w => v = .bool res ∧ Ext w0 w) := by
 refine enter Tryz.func90 rfl rfl rfl fun Q a h hret0 hnor => ?_
 obtain ⟨Zi, Z, H⟩ : ∃ Zi Z, HZ w0 Zi Z [] w0 := ⟨_, _, HZ.start w0⟩
 have h := h.only [0] (l' := [_]) rfl
 unfold num_fits at hS
 refine c_region fun K hK => ?_
 refine st1 h rfl rfl rfl (v_assign rfl) fun a h => ?_
 refine c_nil hK ?_
 refine c_region fun K hK => ?_
 refine st1 h rfl rfl rfl (v_move rfl) fun a h => ?_
 obtain ⟨z4_1, ez4_1, hS⟩ := bv hS
 refine st1 h rfl rfl rfl (vB ez4_1 (v_ge rfl rfl)) fun a h => ?_
 refine st1 h rfl rfl rfl (v_assign rfl) fun a h => ?_
 refine c_nil hK ?_
 obtain rfl := so hS
 refine c_ret (hret0 _ _ (out1 h rfl rfl ?_))
 exact ⟨rfl, H.out⟩

theorem num_Add_ok {x0 : Int} {x1 : Int} {res : Int × Bool} {w0 : World} (hS : num_Add x0 x1 = some res) : Calls Tryz.prog 53 [.int .i64 x0, .int .i64 x1].toArray w0 (Ret fun v w => v = .tuple #[.int .i64 res.1, .bool res.2] ∧ Ext w0 w) := by
 refine enter Tryz.func53 rfl rfl rfl fun Q a h hret0 hnor => ?_
 obtain ⟨Zi, Z, H⟩ : ∃ Zi Z, HZ w0 Zi Z [] w0 := ⟨_, _, HZ.start w0⟩
 have h := h.only [0, 1] (l' := [_, _]) rfl
 unfold num_Add at hS
 refine c_region fun K hK => ?_
 refine st1 h rfl rfl rfl (v_assign rfl) fun a h => ?_
 refine st1 h rfl rfl rfl (v_assign rfl) fun a h => ?_
 refine c_nil hK ?_
 refine c_region fun K hK => ?_
 refine st1 h rfl rfl rfl (v_move rfl) fun a h => ?_
 refine st1 h rfl rfl rfl (v_move rfl) fun a h => ?_
 obtain ⟨z9_1, ez9_1, hS⟩ := bv hS
 refine st1 h rfl rfl rfl (vI ez9_1 (v_addw rfl rfl)) fun a h => ?_
 refine st1 h rfl rfl rfl (v_assign rfl) fun a h => ?_
 refine c_nil hK ?_
 have h := h.only [0, 1, 6] (l' := [_, _, _]) rfl
 refine c_region fun K hK => ?_
 refine st1 h rfl rfl rfl (v_move rfl) fun a h => ?_
 refine st1 h rfl rfl rfl (v_move rfl) fun a h => ?_
 obtain ⟨y12_2, hy12_2, hS⟩ := bo hS
 refine st2v (T := Ext) (V := .bool y12_2) h rfl rfl rfl (d_call [_] rfl Tryz.call90 (num_fits_ok (x0 := z9_1) hy12_2)) fun w X a h => ?_
 have H := H.ext X
 refine st1 h rfl rfl rfl (v_move rfl) fun a h => ?_
 refine st_g h rfl rfl (gT rfl) rfl rfl (fun e0 => v_move rfl) fun a h => ?_
 refine st_g h rfl rfl (gT rfl) rfl rfl (fun e0 => v_move rfl) fun a h => ?_
 obtain ⟨z16_3, ez16_3, hS⟩ := bv hS
 refine st_g h rfl rfl (gT rfl) rfl rfl (fun e0 => vB ez16_3 (v_gt (eg e0 rfl) (eg e0 rfl))) fun a h => ?_
 refine st_g h rfl rfl (gT rfl) rfl rfl (fun e0 => v_move rfl) fun a h => ?_
 obtain ⟨z18_4, ez18_4, hS⟩ := bv hS
 refine st_g h rfl rfl (gT rfl) rfl rfl (fun e0 => vB ez18_4 (v_gt (eg e0 rfl) rfl)) fun a h => ?_
 obtain ⟨z19_5, ez19_5, hS⟩ := bv hS
 refine st_g h rfl rfl (gT rfl) rfl rfl (fun e0 => vB ez19_5 (v_beq Tryz.underlying4 (eg e0 rfl) (eg e0 rfl))) fun a h => ?_
 obtain ⟨z20_6, ez20_6, hS⟩ := bv hS
 refine st1 h rfl rfl rfl (vB ez20_6 (v_and rfl rfl)) fun a h => ?_
 refine st1 h rfl rfl rfl (v_assign rfl) fun a h => ?_
 refine st1 h rfl rfl rfl (v_assign rfl) fun a h => ?_
 refine c_nil hK ?_
 have h := h.only [4, 5] (l' := [_, _]) rfl
 obtain rfl := so hS
 refine c_ret (hret0 _ _ (out2 h rfl rfl rfl ?_))
 exact ⟨rfl, H.out⟩

theorem num_Sub_ok {x0 : Int} {x1 : Int} {res : Int × Bool} {w0 : World} (hS : num_Sub x0 x1 = some res) : Calls Tryz.prog 54 [.int .i64 x0, .int .i64 x1].toArray w0 (Ret fun v w => v = .tuple #[.int .i64 res.1, .bool res.2] ∧ Ext w0 w) := by
 refine enter Tryz.func54 rfl rfl rfl fun Q a h hret0 hnor => ?_
 obtain ⟨Zi, Z, H⟩ : ∃ Zi Z, HZ w0 Zi Z [] w0 := ⟨_, _, HZ.start w0⟩
 have h := h.only [0, 1] (l' := [_, _]) rfl
 unfold num_Sub at hS
 refine c_region fun K hK => ?_
 refine st1 h rfl rfl rfl (v_assign rfl) fun a h => ?_
 refine st1 h rfl rfl rfl (v_assign rfl) fun a h => ?_
 refine c_nil hK ?_
 refine c_region fun K hK => ?_
 refine st1 h rfl rfl rfl (v_move rfl) fun a h => ?_
 refine st1 h rfl rfl rfl (v_move rfl) fun a h => ?_
 obtain ⟨z8_1, ez8_1, hS⟩ := bv hS
 refine st1 h rfl rfl rfl (vI ez8_1 (v_negw rfl)) fun a h => ?_
 obtain ⟨y9_2, hy9_2, hS⟩ := bo hS
 refine st2v (T := Ext) (V := .tuple #[.int .i64 y9_2.1, .bool y9_2.2]) h rfl rfl rfl (d_call [_, _] rfl Tryz.call53 (num_Add_ok (x0 := x0) (x1 := z8_1) hy9_2)) fun w X a h => ?_
 have H := H.ext X
 refine st1 h rfl rfl rfl (v_extract rfl rfl) fun a h => ?_
 refine st1 h rfl rfl rfl (v_extract rfl rfl) fun a h => ?_
 refine st1 h rfl rfl rfl (v_assign rfl) fun a h => ?_
 refine st1 h rfl rfl rfl (v_assign rfl) fun a h => ?_
 refine c_nil hK ?_
 have h := h.only [4, 5] (l' := [_, _]) rfl
 obtain rfl := so hS
 refine c_ret (hret0 _ _ (out2 h rfl rfl rfl ?_))
 exact ⟨rfl, H.out⟩

theorem num_abs_ok {x0 : Int} {res : Int} {w0 : World} (hS : num_abs x0 = some res) : Calls Tryz.prog 57 [.int .i64 x0].toArray w0 (Ret fun v w => v = .int .u64 res ∧ Ext w0 w) := by
 refine enter Tryz.func57 rfl rfl rfl fun Q a h hret0 hnor => ?_
 obtain ⟨Zi, Z, H⟩ : ∃ Zi Z, HZ w0 Zi Z [] w0 := ⟨_, _, HZ.start w0⟩
 have h := h.only [0] (l' := [_]) rfl
 unfold num_abs at hS
 refine c_region fun K hK => ?_
 refine st1 h rfl rfl rfl (v_assign rfl) fun a h => ?_
 refine c_nil hK ?_
 refine c_seq _ (fun a w c => c) fun Q1 hN1 hO1 => ?_
 have hret1 := hO1.ret hret0
 refine c_region fun K hK => ?_
 refine st1 h rfl rfl rfl (v_move rfl) fun a h => ?_
 obtain ⟨z4_2, ez4_2, hS⟩ := bv hS
 refine st1 h rfl rfl rfl (vB ez4_2 (v_lt rfl rfl)) fun a h => ?_
 refine c_nil hK ?_
 refine c_cond h rfl (fun ec3 => ?_) (fun ec3 => ?_)
 ·
  have hS := ifT ec3 hS
  refine c_region fun K hK => ?_
  refine st1 h rfl rfl rfl (v_move rfl) fun a h => ?_
  obtain ⟨z6_4, ez6_4, hS⟩ := bv hS
  refine st1 h rfl rfl rfl (vI ez6_4 (v_convInt (by rw [Tryz.underlying2]; rfl) Tryz.underlying80 rfl rfl)) fun a h => ?_
  obtain ⟨z7_5, ez7_5, hS⟩ := bv hS
  refine st1 h rfl rfl rfl (vI ez7_5 (v_negw rfl)) fun a h => ?_
  refine st1 h rfl rfl rfl (v_assign rfl) fun a h => ?_
  refine c_nil hK ?_
  have h := h.only [2] (l' := [_]) rfl
  obtain rfl := so hS
  refine c_ret (hret1 _ _ (out1 h rfl rfl ?_))
  exact ⟨rfl, H.out⟩
 ·
  have hS := ifF ec3 hS
  refine c_skip ?_
  refine hN1 _ _ ?_
  refine c_region fun K hK => ?_
  refine st1 h rfl rfl rfl (v_move rfl) fun a h => ?_
  obtain ⟨z9_6, ez9_6, hS⟩ := bv hS
  refine st1 h rfl rfl rfl (vI ez9_6 (v_convInt (by rw [Tryz.underlying2]; rfl) Tryz.underlying80 rfl rfl)) fun a h => ?_
  refine st1 h rfl rfl rfl (v_assign rfl) fun a h => ?_
  refine c_nil hK ?_
  have h := h.only [2] (l' := [_]) rfl
  obtain rfl := so hS
  refine c_ret (hret0 _ _ (out1 h rfl rfl ?_))
  exact ⟨rfl, H.out⟩

theorem num_signed_ok {x0 : Int} {x1 : Bool} {res : Int × Bool} {w0 : World} (hS : num_signed x0 x1 = some res) : Calls Tryz.prog 78 [.int .u64 x0, .bool x1].toArray w0 (Ret fun v w => v = .tuple #[.int .i64 res.1, .bool res.2] ∧ Ext w0 w) := by
 refine enter Tryz.func78 rfl rfl rfl fun Q a h hret0 hnor => ?_
 obtain ⟨Zi, Z, H⟩ : ∃ Zi Z, HZ w0 Zi Z [] w0 := ⟨_, _, HZ.start w0⟩
 have h := h.only [0, 1] (l' := [_, _]) rfl
 unfold num_signed at hS
 refine c_region fun K hK => ?_
 refine st1 h rfl rfl rfl (v_assign rfl) fun a h => ?_
 refine st1 h rfl rfl rfl (v_assign rfl) fun a h => ?_
 refine c_nil hK ?_
 refine c_seq _ (fun a w c => c) fun Q1 hN1 hO1 => ?_
 have hret1 := hO1.ret hret0
 refine c_region fun K hK => ?_
 refine st1 h rfl rfl rfl (v_move rfl) fun a h => ?_
 obtain ⟨z7_2, ez7_2, hS⟩ := bv hS
 refine st1 h rfl rfl rfl (vB ez7_2 (v_gt rfl rfl)) fun a h => ?_
 refine c_nil hK ?_
 refine c_cond h rfl (fun ec3 => ?_) (fun ec3 => ?_)
 ·
  have hS := ifT ec3 hS
  refine c_region fun K hK => ?_
  refine st1 h rfl rfl rfl (v_assign rfl) fun a h => ?_
  refine st1 h rfl rfl rfl (v_assign rfl) fun a h => ?_
  refine c_nil hK ?_
  have h := h.only [4, 5] (l' := [_, _]) rfl
  obtain rfl := so hS
  refine c_ret (hret1 _ _ (out2 h rfl rfl rfl ?_))
  exact ⟨rfl, H.out⟩
 ·
  have hS := ifF ec3 hS
  refine c_skip ?_
  refine hN1 _ _ ?_
  have h := h.only [0, 1] (l' := [_, _]) rfl
  refine c_seq _ (fun a w c => c) fun Q4 hN4 hO4 => ?_
  have hret4 := hO4.ret hret0
  refine c_region fun K hK => ?_
  refine st1 h rfl rfl rfl (v_move rfl) fun a h => ?_
  refine c_nil hK ?_
  refine c_cond h rfl (fun ec5 => ?_) (fun ec5 => ?_)
  ·
   have hS := ifT ec5 hS
   refine c_region fun K hK => ?_
   refine st1 h rfl rfl rfl (v_move rfl) fun a h => ?_
   obtain ⟨z10_6, ez10_6, hS⟩ := bv hS
   refine st1 h rfl rfl rfl (vI ez10_6 (v_convInt (by rw [Tryz.underlying80]; rfl) Tryz.underlying2 rfl rfl)) fun a h => ?_
   obtain ⟨z11_7, ez11_7, hS⟩ := bv hS
   refine st1 h rfl rfl rfl (vI ez11_7 (v_negw rfl)) fun a h => ?_
   refine st1 h rfl rfl rfl (v_assign rfl) fun a h => ?_
   refine st1 h rfl rfl rfl (v_assign rfl) fun a h => ?_
   refine c_nil hK ?_
   have h := h.only [4, 5] (l' := [_, _]) rfl
   obtain rfl := so hS
   refine c_ret (hret4 _ _ (out2 h rfl rfl rfl ?_))
   exact ⟨rfl, H.out⟩
  ·
   have hS := ifF ec5 hS
   refine c_skip ?_
   refine hN4 _ _ ?_
   refine c_region fun K hK => ?_
   refine st1 h rfl rfl rfl (v_move rfl) fun a h => ?_
   obtain ⟨z13_8, ez13_8, hS⟩ := bv hS
   refine st1 h rfl rfl rfl (vI ez13_8 (v_convInt (by rw [Tryz.underlying80]; rfl) Tryz.underlying2 rfl rfl)) fun a h => ?_
   refine st1 h rfl rfl rfl (v_assign rfl) fun a h => ?_
   refine st1 h rfl rfl rfl (v_assign rfl) fun a h => ?_
   refine c_nil hK ?_
   have h := h.only [4, 5] (l' := [_, _]) rfl
   obtain rfl := so hS
   refine c_ret (hret0 _ _ (out2 h rfl rfl rfl ?_))
   exact ⟨rfl, H.out⟩

theorem reckonerlaw12_good_ok {x0 : V} {res : Bool} {w0 : World} (hS : reckonerlaw12_good x0 = some res) : Calls Tryz.prog 8 [.agg #[.int .i64 x0.k, .int .i64 x0.n, S x0.s]].toArray w0 (Ret fun v w => v = .bool res ∧ Ext w0 w) := by
 refine enter Tryz.func8 rfl rfl rfl fun Q a h hret0 hnor => ?_
 obtain ⟨Zi, Z, H⟩ : ∃ Zi Z, HZ w0 Zi Z [] w0 := ⟨_, _, HZ.start w0⟩
 have h := h.only [0] (l' := [_]) rfl
 unfold reckonerlaw12_good at hS
 refine c_region fun K hK => ?_
 refine z_box h H rfl [_, _, _] rfl rfl fun a p1_1 w X H h => ?_
 have H : HZ w0 _ _ [_] _ := H
 refine st1 h rfl rfl rfl (v_assign rfl) fun a h => ?_
 refine c_nil hK ?_
 refine c_region fun K hK => ?_
 refine st1 h rfl rfl rfl (v_fieldAddr rfl Tryz.underlying25 rfl Tryz.sizeOf9 rfl rfl) fun a h => ?_
 refine st1 h rfl rfl rfl (v_load1 rfl Tryz.isAgg9 (H.hp.get 0 rfl) rfl) fun a h => ?_
 refine st1 h rfl rfl rfl (v_slen Tryz.underlying9 rfl) fun a h => ?_
 obtain ⟨z6_2, ez6_2, hS⟩ := bv hS
 refine st1 h rfl rfl rfl (vB ez6_2 (v_le rfl rfl)) fun a h => ?_
 refine st1 h rfl rfl rfl (v_move rfl) fun a h => ?_
 refine st_g h rfl rfl (gT rfl) rfl rfl (fun e0 => v_loadA [_, _, _] rfl Tryz.isAgg25 Tryz.sizeOf25 (H.hp.get 0 rfl) rfl rfl) fun a h => ?_
 obtain ⟨y9_3, hy9_3, hS⟩ := bo hS
 refine st_gd (T := Ext) (V := .bool y9_3) h rfl rfl (gT rfl) rfl rfl (Ext.refl _) (fun e0 => d_call [_] (evs_c (eg e0 rfl) evs_n) Tryz.call11 (value_Right_ok (x0 := x0) (ifT e0 hy9_3))) fun w X a h => ?_
 have H := H.ext X
 obtain ⟨z10_4, ez10_4, hS⟩ := bv hS
 refine st1 h rfl rfl rfl (vB ez10_4 (v_and rfl rfl)) fun a h => ?_
 refine st1 h rfl rfl rfl (v_move rfl) fun a h => ?_
 refine st_g h rfl rfl (gT rfl) rfl rfl (fun e0 => v_fieldAddr rfl Tryz.underlying25 rfl Tryz.sizeOf3 rfl rfl) fun a h => ?_
 refine st_g h rfl rfl (gT rfl) rfl rfl (fun e0 => v_load1 (eg e0 rfl) Tryz.isAgg3 (H.hp.get 0 rfl) rfl) fun a h => ?_
 obtain ⟨z14_5, ez14_5, hS⟩ := bv hS
 refine st_g h rfl rfl (gT rfl) rfl rfl (fun e0 => vB ez14_5 (v_ne (eg e0 rfl) rfl)) fun a h => ?_
 obtain ⟨z15_6, ez15_6, hS⟩ := bv hS
 refine st1 h rfl rfl rfl (vB ez15_6 (v_and rfl rfl)) fun a h => ?_
 refine st1 h rfl rfl rfl (v_assign rfl) fun a h => ?_
 refine c_nil hK ?_
 have h := h.only [2] (l' := [_]) rfl
 obtain rfl := so hS
 refine c_ret (hret0 _ _ (out1 h rfl rfl ?_))
 exact ⟨rfl, H.out⟩
end Go.Proofs.YtnmkeanoidadcaaGreatDoor
