/- Walks: the code computes what the partial functions say. -/
import Derived.Test.YtnmkeanoidadcaaGreatDoorSpB
import Derived.Test.YtnmkeanoidadcaaGreatDoorWkA
set_option linter.unusedSimpArgs false
set_option linter.unusedVariables false
set_option linter.unusedSectionVars false
namespace Go.Proofs.YtnmkeanoidadcaaGreatDoor
open Go.Stp Go.RowKit Go.ValP Go.Sp
set_option maxRecDepth 100000
theorem value_Compare_ok {x0 : V} {x1 : V} {res : Int} {w0 : World} (hS : value_Compare x0 x1 = some res) : Calls Tryz.prog 52 [.agg #[.int .i64 x0.k, .int .i64 x0.n, S x0.s], .agg #[.int .i64 x1.k, .int .i64 x1.n, S x1.s]].toArray w0 (Ret fun v w => v = .int .i64 res ∧ Ext w0 w) := by
 refine enter Tryz.func52 rfl rfl rfl fun Q a h hret0 hnor => ?_
 obtain ⟨Zi, Z, H⟩ : ∃ Zi Z, HZ w0 Zi Z [] w0 := ⟨_, _, HZ.start w0⟩
 have h := h.only [0, 1] (l' := [_, _]) rfl
 unfold value_Compare at hS
 refine c_region fun K hK => ?_
 refine z_box h H rfl [_, _, _] rfl rfl fun a p2_1 w X H h => ?_
 have H : HZ w0 _ _ [_] _ := H
 refine z_box h H rfl [_, _, _] rfl rfl fun a p3_2 w X H h => ?_
 have H : HZ w0 _ _ [_, _] _ := H
 refine st1 h rfl rfl rfl (v_assign rfl) fun a h => ?_
 refine c_nil hK ?_
 refine c_flowT 6 h (by kernel_rfl) (by kernel_rfl) fun K hK => ?_
 refine f1 [2] rfl rfl rfl rfl (fun w X => have H := H.ext X; v_loadA [_, _, _] rfl Tryz.isAgg25 Tryz.sizeOf25 (H.hp.get 0 rfl) rfl rfl) ?_
 refine f1 [3] rfl rfl rfl rfl (fun w X => have H := H.ext X; v_loadA [_, _, _] rfl Tryz.isAgg25 Tryz.sizeOf25 (H.hp.get 1 rfl) rfl rfl) ?_
 obtain ⟨y7_3, hy7_3, hS⟩ := bo hS
 refine f2 (V := .agg #[.int .i64 y7_3.k, .int .i64 y7_3.n, S y7_3.s]) [5, 6] rfl rfl rfl rfl (fun w X => d_call [_, _] rfl Tryz.call87 (value_like_ok (x0 := x0) (x1 := x1) hy7_3)) ?_
 refine f1 [3] rfl rfl rfl rfl (fun w X => have H := H.ext X; v_loadA [_, _, _] rfl Tryz.isAgg25 Tryz.sizeOf25 (H.hp.get 1 rfl) rfl rfl) ?_
 refine f1 [2] rfl rfl rfl rfl (fun w X => have H := H.ext X; v_loadA [_, _, _] rfl Tryz.isAgg25 Tryz.sizeOf25 (H.hp.get 0 rfl) rfl rfl) ?_
 obtain ⟨y10_4, hy10_4, hS⟩ := bo hS
 refine f2 (V := .agg #[.int .i64 y10_4.k, .int .i64 y10_4.n, S y10_4.s]) [8, 9] rfl rfl rfl rfl (fun w X => d_call [_, _] rfl Tryz.call87 (value_like_ok (x0 := x1) (x1 := x0) hy10_4)) ?_
 refine fn_ ?_
 intro a w X hR hA
 have h := hR.out [2, 3, 7, 10]
 have h : Fr 42 [(10, _), (7, _), (3, _), (2, _)] a := h
 have H := H.ext X
 refine z_store h H 0 rfl rfl rfl Tryz.sizeOf25 [_, _, _] rfl rfl rfl (by simp) [_, _, _] rfl (hl' := [_, _]) rfl fun w H => ?_
 refine z_store h H 1 rfl rfl rfl Tryz.sizeOf25 [_, _, _] rfl rfl rfl (by simp) [_, _, _] rfl (hl' := [_, _]) rfl fun w H => ?_
 refine c_nil hK ?_
 refine c_seq _ (fun a w c => c) fun Q5 hN5 hO5 => ?_
 have hret5 := hO5.ret hret0
 refine c_region fun K hK => ?_
 refine st1 h rfl rfl rfl (v_fieldAddr rfl Tryz.underlying25 rfl Tryz.sizeOf3 rfl rfl) fun a h => ?_
 refine st1 h rfl rfl rfl (v_load1 rfl Tryz.isAgg3 (H.hp.get 0 rfl) rfl) fun a h => ?_
 refine st1 h rfl rfl rfl (v_fieldAddr rfl Tryz.underlying25 rfl Tryz.sizeOf3 rfl rfl) fun a h => ?_
 refine st1 h rfl rfl rfl (v_load1 rfl Tryz.isAgg3 (H.hp.get 1 rfl) rfl) fun a h => ?_
 obtain ⟨z15_6, ez15_6, hS⟩ := bv hS
 refine st1 h rfl rfl rfl (vB ez15_6 (v_ne rfl rfl)) fun a h => ?_
 refine c_nil hK ?_
 have h := h.only [2, 3, 15] (l' := [_, _, _]) rfl
 refine c_cond h rfl (fun ec7 => ?_) (fun ec7 => ?_)
 ·
  have hS := ifT ec7 hS
  refine c_flow h (by kernel_rfl) (by kernel_rfl) ?_
  refine f1 [2] rfl rfl rfl rfl (fun w X => have H := H.ext X; v_loadA [_, _, _] rfl Tryz.isAgg25 Tryz.sizeOf25 (H.hp.get 0 rfl) rfl rfl) ?_
  obtain ⟨y17_8, hy17_8, hS⟩ := bo hS
  refine f2 (V := .int .i64 y17_8) [16] rfl rfl rfl rfl (fun w X => d_call [_] rfl Tryz.call88 (value_rank_ok (x0 := y7_3) hy17_8)) ?_
  refine f1 [3] rfl rfl rfl rfl (fun w X => have H := H.ext X; v_loadA [_, _, _] rfl Tryz.isAgg25 Tryz.sizeOf25 (H.hp.get 1 rfl) rfl rfl) ?_
  obtain ⟨y19_9, hy19_9, hS⟩ := bo hS
  refine f2 (V := .int .i64 y19_9) [18] rfl rfl rfl rfl (fun w X => d_call [_] rfl Tryz.call88 (value_rank_ok (x0 := y10_4) hy19_9)) ?_
  obtain ⟨z20_10, ez20_10, hS⟩ := bv hS
  refine f1 [17, 19] rfl rfl rfl rfl (fun w X => vI ez20_10 (v_subw rfl rfl)) ?_
  refine f1 [20] rfl rfl rfl rfl (fun w X => v_assign rfl) ?_
  refine fn_ ?_
  intro a w X hR hA
  have h := hR.out [4]
  have h : Fr 42 [(4, _)] a := h
  have H := H.ext X
  obtain rfl := so hS
  refine c_ret (hret5 _ _ (out1 h rfl rfl ?_))
  exact ⟨rfl, H.out⟩
 ·
  have hS := ifF ec7 hS
  refine c_skip ?_
  refine hN5 _ _ ?_
  refine c_block _ (fun a w c => c) fun Q11 hN11 hx0_11 hO11 => ?_
  have hret11 := hO11.ret hret0
  refine c_region fun K hK => ?_
  refine st1 h rfl rfl rfl (v_fieldAddr rfl Tryz.underlying25 rfl Tryz.sizeOf3 rfl rfl) fun a h => ?_
  refine st1 h rfl rfl rfl (v_load1 rfl Tryz.isAgg3 (H.hp.get 0 rfl) rfl) fun a h => ?_
  obtain ⟨z24_12, ez24_12, hS⟩ := bv hS
  refine st1 h rfl rfl rfl (vB ez24_12 (v_eq rfl rfl)) fun a h => ?_
  refine st1 h rfl rfl rfl (v_assign rfl) fun a h => ?_
  refine c_nil hK ?_
  have h := h.only [2, 3, 21] (l' := [_, _, _]) rfl
  refine c_cond h rfl (fun ec13 => ?_) (fun ec13 => ?_)
  ·
   have hS := ifT ec13 hS
   refine c_region fun K hK => ?_
   refine st1 h rfl rfl rfl (v_fieldAddr rfl Tryz.underlying25 rfl Tryz.sizeOf9 rfl rfl) fun a h => ?_
   refine st1 h rfl rfl rfl (v_load1 rfl Tryz.isAgg9 (H.hp.get 0 rfl) rfl) fun a h => ?_
   refine st1 h rfl rfl rfl (v_fieldAddr rfl Tryz.underlying25 rfl Tryz.sizeOf9 rfl rfl) fun a h => ?_
   refine st1 h rfl rfl rfl (v_load1 rfl Tryz.isAgg9 (H.hp.get 1 rfl) rfl) fun a h => ?_
   obtain ⟨z29_15, ez29_15, hS⟩ := bv hS
   refine st2v (T := Ext) (V := .int .i64 z29_15) h rfl rfl rfl ((by rw [ez29_15]; exact d_call [_, _] rfl Tryz.call89 (lib_compare))) fun w X a h => ?_
   have H := H.ext X
   refine st1 h rfl rfl rfl (v_assign rfl) fun a h => ?_
   refine c_nil hK ?_
   have h := h.only [4] (l' := [_]) rfl
   obtain rfl := so hS
   refine c_ret (hret11 _ _ (out1 h rfl rfl ?_))
   exact ⟨rfl, H.out⟩
  ·
   have hS := ifF ec13 hS
   refine c_region fun K hK => ?_
   refine st1 h rfl rfl rfl (v_fieldAddr rfl Tryz.underlying25 rfl Tryz.sizeOf2 rfl rfl) fun a h => ?_
   refine st1 h rfl rfl rfl (v_load1 rfl Tryz.isAgg2 (H.hp.get 0 rfl) rfl) fun a h => ?_
   refine st1 h rfl rfl rfl (v_fieldAddr rfl Tryz.underlying25 rfl Tryz.sizeOf2 rfl rfl) fun a h => ?_
   refine st1 h rfl rfl rfl (v_load1 rfl Tryz.isAgg2 (H.hp.get 1 rfl) rfl) fun a h => ?_
   obtain ⟨z35_16, ez35_16, hS⟩ := bv hS
   refine st1 h rfl rfl rfl (vB ez35_16 (v_lt rfl rfl)) fun a h => ?_
   refine st1 h rfl rfl rfl (v_assign rfl) fun a h => ?_
   refine c_nil hK ?_
   have h := h.only [2, 3, 30] (l' := [_, _, _]) rfl
   refine c_cond h rfl (fun ec17 => ?_) (fun ec17 => ?_)
   ·
    have hS := ifT ec17 hS
    refine c_region fun K hK => ?_
    refine st1 h rfl rfl rfl (v_assign rfl) fun a h => ?_
    refine c_nil hK ?_
    obtain rfl := so hS
    refine c_ret (hret11 _ _ (out1 h rfl rfl ?_))
    exact ⟨rfl, H.out⟩
   ·
    have hS := ifF ec17 hS
    refine c_region fun K hK => ?_
    refine st1 h rfl rfl rfl (v_fieldAddr rfl Tryz.underlying25 rfl Tryz.sizeOf2 rfl rfl) fun a h => ?_
    refine st1 h rfl rfl rfl (v_load1 rfl Tryz.isAgg2 (H.hp.get 0 rfl) rfl) fun a h => ?_
    refine st1 h rfl rfl rfl (v_fieldAddr rfl Tryz.underlying25 rfl Tryz.sizeOf2 rfl rfl) fun a h => ?_
    refine st1 h rfl rfl rfl (v_load1 rfl Tryz.isAgg2 (H.hp.get 1 rfl) rfl) fun a h => ?_
    obtain ⟨z41_18, ez41_18, hS⟩ := bv hS
    refine st1 h rfl rfl rfl (vB ez41_18 (v_gt rfl rfl)) fun a h => ?_
    refine st1 h rfl rfl rfl (v_assign rfl) fun a h => ?_
    refine c_nil hK ?_
    have h := h.only [36] (l' := [_]) rfl
    refine c_cond h rfl (fun ec19 => ?_) (fun ec19 => ?_)
    ·
     have hS := ifT ec19 hS
     refine c_region fun K hK => ?_
     refine st1 h rfl rfl rfl (v_assign rfl) fun a h => ?_
     refine c_nil hK ?_
     obtain rfl := so hS
     refine c_ret (hret11 _ _ (out1 h rfl rfl ?_))
     exact ⟨rfl, H.out⟩
    ·
     have hS := ifF ec19 hS
     refine c_skip ?_
     refine hN11 _ _ ?_
     refine c_region fun K hK => ?_
     refine st1 h rfl rfl rfl (v_assign rfl) fun a h => ?_
     refine c_nil hK ?_
     obtain rfl := so hS
     refine c_ret (hret0 _ _ (out1 h rfl rfl ?_))
     exact ⟨rfl, H.out⟩

theorem value_ErrorName_ok {x0 : Int} {res : (List UInt8)} {w0 : World} (hS : value_ErrorName x0 = some res) (hG : GW w0) : Calls Tryz.prog 42 [.int .i64 x0].toArray w0 (Ret fun v w => v = S res ∧ Ext w0 w) := by
 refine enter Tryz.func42 rfl rfl rfl fun Q a h hret0 hnor => ?_
 obtain ⟨Zi, Z, H⟩ : ∃ Zi Z, HZ w0 Zi Z [] w0 := ⟨_, _, HZ.start w0⟩
 have h := h.only [0] (l' := [_]) rfl
 unfold value_ErrorName at hS
 refine c_region fun K hK => ?_
 refine st1 h rfl rfl rfl (v_assign rfl) fun a h => ?_
 refine c_nil hK ?_
 refine c_region fun K hK => ?_
 obtain ⟨c2, hS⟩ := ck hS
 obtain ⟨z4_3, ez4_3, hS⟩ := bv hS
 refine z_callR (data := z4_3) h H rfl rfl rfl ((by rw [ez4_3]; exact d_call [_] rfl Tryz.call31 (lib_fields c2 (hG.ext H.out)))) fun v4_4 Z w hsub X H r4_4 a h => ?_
 refine st1 h rfl rfl rfl (v_assign rfl) fun a h => ?_
 refine c_nil hK ?_
 refine c_seq _ (fun a w c => c) fun Q5 hN5 hO5 => ?_
 have hret5 := hO5.ret hret0
 refine c_region fun K hK => ?_
 refine st1 h rfl rfl rfl (v_move rfl) fun a h => ?_
 obtain ⟨z6_6, ez6_6, hS⟩ := bv hS
 refine st1 h rfl rfl rfl (vB ez6_6 (v_lt rfl rfl)) fun a h => ?_
 refine st1 h rfl rfl rfl (v_move rfl) fun a h => ?_
 refine st_g h rfl rfl (gF rfl) rfl rfl (fun e0 => v_move rfl) fun a h => ?_
 refine st_g h rfl rfl (gF rfl) rfl rfl (fun e0 => v_move rfl) fun a h => ?_
 refine st_g h rfl rfl (gF rfl) rfl rfl (fun e0 => v_len Tryz.underlying36 (eg e0 rfl) (r4_4.at H.zin)) fun a h => ?_
 obtain ⟨z11_7, ez11_7, hS⟩ := bv hS
 refine st_g h rfl rfl (gF rfl) rfl rfl (fun e0 => vB ez11_7 (v_gt (eg e0 rfl) (eg e0 rfl))) fun a h => ?_
 obtain ⟨z12_8, ez12_8, hS⟩ := bv hS
 refine st1 h rfl rfl rfl (vB ez12_8 (v_or rfl rfl)) fun a h => ?_
 refine c_nil hK ?_
 have h := h.only [0, 3, 12] (l' := [_, _, _]) rfl
 refine c_cond h rfl (fun ec9 => ?_) (fun ec9 => ?_)
 ·
  have hS := ifT ec9 hS
  refine c_region fun K hK => ?_
  refine st1 h rfl rfl rfl (v_assign rfl) fun a h => ?_
  refine c_nil hK ?_
  obtain rfl := so hS
  refine c_ret (hret5 _ _ (out1 h rfl rfl ?_))
  exact ⟨rfl, H.out⟩
 ·
  have hS := ifF ec9 hS
  refine c_skip ?_
  refine hN5 _ _ ?_
  refine c_region fun K hK => ?_
  refine st1 h rfl rfl rfl (v_move rfl) fun a h => ?_
  refine st1 h rfl rfl rfl (v_move rfl) fun a h => ?_
  obtain ⟨z15_10, ez15_10, hS⟩ := bv hS
  refine st1 h rfl rfl rfl (vI ez15_10 (v_subw rfl rfl)) fun a h => ?_
  obtain ⟨c11, hS⟩ := ck hS
  obtain ⟨z16_12, ez16_12, hS⟩ := bv hS
  refine st_idx h Tryz.underlying36 Tryz.sizeOf9 rfl rfl (r4_4.at H.zin) (fun _ => rfl) z16_12 c11.1 (by rw [ez16_12]; exact gel_some c11) rfl fun a v16 A16 h => ?_
  refine st1 h rfl rfl rfl (v_loadAt1 rfl A16 Tryz.isAgg9 rfl) fun a h => ?_
  refine st1 h rfl rfl rfl (v_assign rfl) fun a h => ?_
  refine c_nil hK ?_
  have h := h.only [2] (l' := [_]) rfl
  obtain rfl := so hS
  refine c_ret (hret0 _ _ (out1 h rfl rfl ?_))
  exact ⟨rfl, H.out⟩

theorem num_Parse_ok {x0 : List UInt8} {res : Int × Bool} {w0 : World} (hS : num_Parse x0 = some res) : Calls Tryz.prog 33 [S x0].toArray w0 (Ret fun v w => v = .tuple #[.int .i64 res.1, .bool res.2] ∧ Ext w0 w) := by
 refine enter Tryz.func33 rfl rfl rfl fun Q a h hret0 hnor => ?_
 obtain ⟨Zi, Z, H⟩ : ∃ Zi Z, HZ w0 Zi Z [] w0 := ⟨_, _, HZ.start w0⟩
 have h := h.only [0] (l' := [_]) rfl
 unfold num_Parse at hS
 refine c_region fun K hK => ?_
 refine st1 h rfl rfl rfl (v_assign rfl) fun a h => ?_
 refine st1 h rfl rfl rfl (v_assign rfl) fun a h => ?_
 refine c_nil hK ?_
 refine c_region fun K hK => ?_
 refine st1 h rfl rfl rfl (v_assign rfl) fun a h => ?_
 refine st1 h rfl rfl rfl (v_assign rfl) fun a h => ?_
 refine st1 h rfl rfl rfl (v_assign rfl) fun a h => ?_
 refine c_nil hK ?_
 obtain ⟨J2, eJ2, hS⟩ := bv hS
 refine c_seq (fun a w => ∃ (Z : FZ) (s2 : Int × Int × Int), J2 s2 = some res ∧ Fr 87 [(4, .int .u64 s2.1), (5, .int .i64 s2.2.1), (6, .int .i64 s2.2.2)] a ∧ HZ w0 Zi Z [] w) ?_ fun Q1 hN1 hO1 => ?_
 ·
  rintro a w ⟨Z, s2, hS, h, H⟩
  subst eJ2
  obtain ⟨J4, eJ4, hS⟩ := bv hS
  refine c_seq (fun a w => ∃ (Z : FZ) (s4 : Int), J4 s4 = some res ∧ Fr 87 [(4, .int .u64 s4), (5, .int .i64 s2.2.1), (6, .int .i64 s2.2.2)] a ∧ HZ w0 Zi Z [] w) ?_ fun Q3 hN3 hO3 => ?_
  ·
   rintro a w ⟨Z, s4, hS, h, H⟩
   subst eJ4
   refine c_seq _ (fun a w c => c) fun Q5 hN5 hO5 => ?_
   have hret5 := hO5.ret hret0
   refine c_region fun K hK => ?_
   refine st1 h rfl rfl rfl (v_move rfl) fun a h => ?_
   obtain ⟨z78_6, ez78_6, hS⟩ := bv hS
   refine st1 h rfl rfl rfl (vB ez78_6 (v_eq rfl rfl)) fun a h => ?_
   refine st1 h rfl rfl rfl (v_move rfl) fun a h => ?_
   refine st_g h rfl rfl (gF rfl) rfl rfl (fun e0 => v_move rfl) fun a h => ?_
   obtain ⟨z81_7, ez81_7, hS⟩ := bv hS
   refine st_g h rfl rfl (gF rfl) rfl rfl (fun e0 => vB ez81_7 (v_eq (eg e0 rfl) rfl)) fun a h => ?_
   obtain ⟨z82_8, ez82_8, hS⟩ := bv hS
   refine st1 h rfl rfl rfl (vB ez82_8 (v_or rfl rfl)) fun a h => ?_
   refine c_nil hK ?_
   have h := h.only [4, 82] (l' := [_, _]) rfl
   refine c_cond h rfl (fun ec9 => ?_) (fun ec9 => ?_)
   ·
    have hS := ifT ec9 hS
    refine c_region fun K hK => ?_
    refine st1 h rfl rfl rfl (v_assign rfl) fun a h => ?_
    refine st1 h rfl rfl rfl (v_assign rfl) fun a h => ?_
    refine c_nil hK ?_
    obtain rfl := so hS
    refine c_ret (hret5 _ _ (out2 h rfl rfl rfl ?_))
    exact ⟨rfl, H.out⟩
   ·
    have hS := ifF ec9 hS
    refine c_skip ?_
    refine hN5 _ _ ?_
    refine c_region fun K hK => ?_
    refine st1 h rfl rfl rfl (v_move rfl) fun a h => ?_
    obtain ⟨y84_10, hy84_10, hS⟩ := bo hS
    refine st2v (T := Ext) (V := .tuple #[.int .i64 y84_10.1, .bool y84_10.2]) h rfl rfl rfl (d_call [_, _] rfl Tryz.call78 (num_signed_ok (x0 := s4) (x1 := false) hy84_10)) fun w X a h => ?_
    have H := H.ext X
    refine st1 h rfl rfl rfl (v_extract rfl rfl) fun a h => ?_
    refine st1 h rfl rfl rfl (v_extract rfl rfl) fun a h => ?_
    refine st1 h rfl rfl rfl (v_assign rfl) fun a h => ?_
    refine st1 h rfl rfl rfl (v_assign rfl) fun a h => ?_
    refine c_nil hK ?_
    have h := h.only [2, 3] (l' := [_, _]) rfl
    obtain rfl := so hS
    refine c_ret (hret0 _ _ (out2 h rfl rfl rfl ?_))
    exact ⟨rfl, H.out⟩
  ·
   have hret3 := hO3.ret hret0
   refine c_region fun K hK => ?_
   refine st1 h rfl rfl rfl (v_move rfl) fun a h => ?_
   obtain ⟨z64_11, ez64_11, hS⟩ := bv hS
   refine st1 h rfl rfl rfl (vI ez64_11 (v_max Tryz.underlying3 rfl rfl)) fun a h => ?_
   refine st1 h rfl rfl rfl (v_assign rfl) fun a h => ?_
   refine c_nil hK ?_
   refine c_lblock fun Q12 hN12 hx3_12 hO12 => ?_
   have hret12 := hO12.ret hret3
   obtain ⟨B13, eB13, hS⟩ := bv hS
   refine c_loopN (fun mu_ a w => ∃ (Z : FZ) (s13 : Int × Int), loopF B13 mu_ s13 = some res ∧ Fr 87 [(4, .int .u64 s13.1), (5, .int .i64 s2.2.1), (6, .int .i64 s2.2.2), (12, .int .i64 s13.2)] a ∧ HZ w0 Zi Z [] w) KK ⟨_, (s2.1, z64_11), hS, (h.only [4, 5, 6, 12] (l' := [_, _, _, _]) rfl), H⟩ ?_
   rintro mu_ a w ⟨Z, s13, hS, h, H⟩ Q14 hN14 hO14
   obtain ⟨mu_, rfl, n13, en13, hS⟩ := lpX eB13 hS
   have hret14 := hO14.ret hret12
   have hx3_14 := hO14.exit (i := 3) rfl hx3_12
   refine c_seq _ (fun a w c => c) fun Q15 hN15 hO15 => ?_
   have hret15 := hO15.ret hret14
   have hx3_15 := hO15.exit (i := 3) rfl hx3_14
   refine c_region fun K hK => ?_
   refine st1 h rfl rfl rfl (v_move rfl) fun a h => ?_
   obtain ⟨z66_16, ez66_16, hS⟩ := bv hS
   refine st1 h rfl rfl rfl (vB ez66_16 (v_lt rfl rfl)) fun a h => ?_
   refine c_nil hK ?_
   refine c_cond h rfl (fun ec17 => ?_) (fun ec17 => ?_)
   ·
    have hS := ifT ec17 hS
    refine c_skip ?_
    refine hN15 _ _ ?_
    refine c_block _ (fun a w c => c) fun Q18 hN18 hx4_18 hO18 => ?_
    have hret18 := hO18.ret hret14
    have hx3_18 := hO18.exit (i := 3) rfl hx3_14
    refine c_region fun K hK => ?_
    refine st1 h rfl rfl rfl (v_move rfl) fun a h => ?_
    obtain ⟨c20, hS⟩ := ck hS
    obtain ⟨z71_21, ez71_21, hS⟩ := bv hS
    refine st2v (T := Ext) (V := .tuple #[.int .u64 z71_21.1, .int .u64 z71_21.2]) h rfl rfl rfl ((by rw [ez71_21]; exact d_call [_, _] rfl Tryz.call76 (lib_mul64 c20))) fun w X a h => ?_
    have H := H.ext X
    refine st1 h rfl rfl rfl (v_move rfl) fun a h => ?_
    refine st1 h rfl rfl rfl (v_extract rfl rfl) fun a h => ?_
    refine st1 h rfl rfl rfl (v_extract rfl rfl) fun a h => ?_
    refine st1 h rfl rfl rfl (v_assign rfl) fun a h => ?_
    refine st1 h rfl rfl rfl (v_assign rfl) fun a h => ?_
    refine c_nil hK ?_
    have h := h.only [5, 6, 12, 13, 14] (l' := [_, _, _, _, _]) rfl
    refine c_seq _ (fun a w c => c) fun Q22 hN22 hO22 => ?_
    have hret22 := hO22.ret hret18
    have hx3_22 := hO22.exit (i := 3) rfl hx3_18
    have hx4_22 := hO22.exit (i := 4) rfl hx4_18
    refine c_region fun K hK => ?_
    refine st1 h rfl rfl rfl (v_move rfl) fun a h => ?_
    obtain ⟨z75_23, ez75_23, hS⟩ := bv hS
    refine st1 h rfl rfl rfl (vB ez75_23 (v_gt rfl rfl)) fun a h => ?_
    refine c_nil hK ?_
    refine c_cond h rfl (fun ec24 => ?_) (fun ec24 => ?_)
    ·
     have hS := ifT ec24 hS
     refine c_region fun K hK => ?_
     refine st1 h rfl rfl rfl (v_assign rfl) fun a h => ?_
     refine st1 h rfl rfl rfl (v_assign rfl) fun a h => ?_
     refine c_nil hK ?_
     have h := h.only [2, 3] (l' := [_, _]) rfl
     obtain rfl := so hS
     refine c_ret (hret22 _ _ (out2 h rfl rfl rfl ?_))
     exact ⟨rfl, H.out⟩
    ·
     have hS := ifF ec24 hS
     refine c_skip ?_
     refine hN22 _ _ ?_
     refine c_lregion ?_
     refine st1 h rfl rfl rfl (v_move rfl) fun a h => ?_
     refine st1 h rfl rfl rfl (v_assign rfl) fun a h => ?_
     refine c_lnil ?_
     refine hN18 _ _ ?_
     have h := h.only [4, 5, 6, 12] (l' := [_, _, _, _]) rfl
     refine c_lregion ?_
     refine st1 h rfl rfl rfl (v_move rfl) fun a h => ?_
     obtain ⟨z68_25, ez68_25, hS⟩ := bv hS
     refine st1 h rfl rfl rfl (vI ez68_25 (v_addw rfl rfl)) fun a h => ?_
     refine st1 h rfl rfl rfl (v_assign rfl) fun a h => ?_
     refine c_lnil ?_
     exact hN14 _ _ _ (Nat.lt_succ_self _) ⟨_, (z71_21.2, z68_25), lpN en13 hS, (h.only [4, 5, 6, 12] (l' := [_, _, _, _]) rfl), H⟩
   ·
    have hS := ifF ec17 hS
    refine c_exit ?_
    refine hx3_15 _ _ ?_
    exact hN3 _ _ ⟨_, s13.1, hS, (h.only [4, 5, 6] (l' := [_, _, _]) rfl), H⟩
 ·
  have hret1 := hO1.ret hret0
  refine c_region fun K hK => ?_
  refine st1 h rfl rfl rfl (v_move rfl) fun a h => ?_
  refine z_range h H Tryz.underlying9 rfl rfl fun a p16_26 w X H h => ?_
  have H : HZ w0 _ _ [_] _ := H
  refine c_nil hK ?_
  have h := h.only [4, 5, 6, 16] (l' := [_, _, _, _]) rfl
  refine c_lblock fun Q27 hN27 hx0_27 hO27 => ?_
  have hret27 := hO27.ret hret1
  obtain ⟨B28, eB28, hS⟩ := bv hS
  refine c_loopN (fun mu_ a w => ∃ (Z : FZ) (s28 : Int × Int × Int × Nat), loopF B28 mu_ s28 = some res ∧ Fr 87 [(4, .int .u64 s28.1), (5, .int .i64 s28.2.1), (6, .int .i64 s28.2.2.1), (16, .pointer (some ⟨p16_26, 0, none⟩))] a ∧ HZ w0 Zi Z [.blk p16_26 (.stringIter ⟨(x0 : List UInt8).toArray⟩ (s28.2.2.2))] w) KK ⟨_, (0, (-1), 0, 0), hS, (h.only [4, 5, 6, 16] (l' := [_, _, _, _]) rfl), H⟩ ?_
  rintro mu_ a w ⟨Z, s28, hS, h, H⟩ Q29 hN29 hO29
  obtain ⟨mu_, rfl, n28, en28, hS⟩ := lpX eB28 hS
  have hret29 := hO29.ret hret27
  have hx0_29 := hO29.exit (i := 0) rfl hx0_27
  refine c_region fun K hK => ?_
  refine z_next h H 0 rfl rfl rfl (hl' := [_]) rfl fun a w H h => ?_
  obtain ⟨z18_30, ez18_30, hS⟩ := bv hS
  refine st1 h rfl rfl rfl (vB ez18_30 (v_next0 rfl)) fun a h => ?_
  refine c_nil hK ?_
  refine c_seq _ (fun a w c => c) fun Q31 hN31 hO31 => ?_
  have hret31 := hO31.ret hret29
  have hx0_31 := hO31.exit (i := 0) rfl hx0_29
  refine c_cond h rfl (fun ec32 => ?_) (fun ec32 => ?_)
  ·
   have hS := ifT ec32 hS
   refine c_skip ?_
   refine hN31 _ _ ?_
   refine c_lblock fun Q33 hN33 hx1_33 hO33 => ?_
   have hret33 := hO33.ret hret29
   have hx0_33 := hO33.exit (i := 0) rfl hx0_29
   refine c_region fun K hK => ?_
   refine st1 h rfl rfl rfl (v_next2 (nlt ez18_30 ec32) rfl) fun a h => ?_
   refine st1 h rfl rfl rfl (v_assign rfl) fun a h => ?_
   refine c_nil hK ?_
   obtain ⟨J35, eJ35, hS⟩ := bv hS
   refine c_block (fun a w => ∃ (Z : FZ) (s35 : Int), J35 s35 = some res ∧ Fr 87 [(4, .int .u64 s28.1), (5, .int .i64 s35), (6, .int .i64 s28.2.2.1), (8, .int .i32 (rn x0 s28.2.2.2)), (16, .pointer (some ⟨p16_26, 0, none⟩))] a ∧ HZ w0 Zi Z [.blk p16_26 (.stringIter ⟨(x0 : List UInt8).toArray⟩ (nextP x0 s28.2.2.2))] w) ?_ fun Q34 hN34 hx2_34 hO34 => ?_
   ·
    rintro a w ⟨Z, s35, hS, h, H⟩
    subst eJ35
    refine c_region fun K hK => ?_
    refine st1 h rfl rfl rfl (v_move rfl) fun a h => ?_
    obtain ⟨c37, hS⟩ := ck hS
    obtain ⟨z45_38, ez45_38, hS⟩ := bv hS
    refine st2v (T := Ext) (V := .tuple #[.int .u64 z45_38.1, .int .u64 z45_38.2]) h rfl rfl rfl ((by rw [ez45_38]; exact d_call [_, _] rfl Tryz.call76 (lib_mul64 c37))) fun w X a h => ?_
    have H := H.ext X
    refine st1 h rfl rfl rfl (v_move rfl) fun a h => ?_
    refine st1 h rfl rfl rfl (v_extract rfl rfl) fun a h => ?_
    refine st1 h rfl rfl rfl (v_extract rfl rfl) fun a h => ?_
    refine st1 h rfl rfl rfl (v_assign rfl) fun a h => ?_
    refine st1 h rfl rfl rfl (v_assign rfl) fun a h => ?_
    refine c_nil hK ?_
    have h := h.only [5, 6, 8, 9, 10, 16] (l' := [_, _, _, _, _, _]) rfl
    refine c_region fun K hK => ?_
    refine st1 h rfl rfl rfl (v_move rfl) fun a h => ?_
    refine st1 h rfl rfl rfl (v_move rfl) fun a h => ?_
    obtain ⟨z51_39, ez51_39, hS⟩ := bv hS
    refine st1 h rfl rfl rfl (vI ez51_39 (v_subw rfl rfl)) fun a h => ?_
    obtain ⟨z52_40, ez52_40, hS⟩ := bv hS
    refine st1 h rfl rfl rfl (vI ez52_40 (v_convInt (by rw [Tryz.underlying21]; rfl) Tryz.underlying80 rfl rfl)) fun a h => ?_
    obtain ⟨c42, hS⟩ := ck hS
    obtain ⟨z53_43, ez53_43, hS⟩ := bv hS
    refine st1 (V := .tuple #[.int .u64 z53_43.1, .int .u64 z53_43.2]) h rfl rfl rfl (by rw [ez53_43]; exact v_add64 rfl rfl rfl c42) fun a h => ?_
    refine st1 h rfl rfl rfl (v_move rfl) fun a h => ?_
    refine st1 h rfl rfl rfl (v_extract rfl rfl) fun a h => ?_
    refine st1 h rfl rfl rfl (v_extract rfl rfl) fun a h => ?_
    refine st1 h rfl rfl rfl (v_assign rfl) fun a h => ?_
    refine st1 h rfl rfl rfl (v_assign rfl) fun a h => ?_
    refine c_nil hK ?_
    have h := h.only [5, 6, 9, 10, 11, 16] (l' := [_, _, _, _, _, _]) rfl
    refine c_seq _ (fun a w c => c) fun Q44 hN44 hO44 => ?_
    have hret44 := hO44.ret hret33
    have hx0_44 := hO44.exit (i := 0) rfl hx0_33
    have hx1_44 := hO44.exit (i := 1) rfl hx1_33
    refine c_region fun K hK => ?_
    refine st1 h rfl rfl rfl (v_move rfl) fun a h => ?_
    refine st1 h rfl rfl rfl (v_move rfl) fun a h => ?_
    obtain ⟨z58_45, ez58_45, hS⟩ := bv hS
    refine st1 h rfl rfl rfl (vI ez58_45 (v_addw rfl rfl)) fun a h => ?_
    obtain ⟨z59_46, ez59_46, hS⟩ := bv hS
    refine st1 h rfl rfl rfl (vB ez59_46 (v_gt rfl rfl)) fun a h => ?_
    refine c_nil hK ?_
    have h := h.only [5, 6, 10, 16, 59] (l' := [_, _, _, _, _]) rfl
    refine c_cond h rfl (fun ec47 => ?_) (fun ec47 => ?_)
    ·
     have hS := ifT ec47 hS
     refine c_region fun K hK => ?_
     refine st1 h rfl rfl rfl (v_assign rfl) fun a h => ?_
     refine st1 h rfl rfl rfl (v_assign rfl) fun a h => ?_
     refine c_nil hK ?_
     have h := h.only [2, 3] (l' := [_, _]) rfl
     obtain rfl := so hS
     refine c_ret (hret44 _ _ (out2 h rfl rfl rfl ?_))
     exact ⟨rfl, H.out⟩
    ·
     have hS := ifF ec47 hS
     refine c_skip ?_
     refine hN44 _ _ ?_
     refine c_region fun K hK => ?_
     refine st1 h rfl rfl rfl (v_move rfl) fun a h => ?_
     refine st1 h rfl rfl rfl (v_assign rfl) fun a h => ?_
     refine c_nil hK ?_
     refine c_lregion ?_
     refine st1 h rfl rfl rfl (v_move rfl) fun a h => ?_
     obtain ⟨z62_48, ez62_48, hS⟩ := bv hS
     refine st1 h rfl rfl rfl (vI ez62_48 (v_addw rfl rfl)) fun a h => ?_
     refine st1 h rfl rfl rfl (v_assign rfl) fun a h => ?_
     refine c_lnil ?_
     refine hN33 _ _ ?_
     exact hN29 _ _ _ (Nat.lt_succ_self _) ⟨_, (z53_43.1, s35, z62_48, nextP x0 s28.2.2.2), lpN en28 hS, (h.only [4, 5, 6, 16] (l' := [_, _, _, _]) rfl), H⟩
   ·
    have hret34 := hO34.ret hret33
    have hx0_34 := hO34.exit (i := 0) rfl hx0_33
    have hx1_34 := hO34.exit (i := 1) rfl hx1_33
    refine c_region fun K hK => ?_
    refine st1 h rfl rfl rfl (v_move rfl) fun a h => ?_
    obtain ⟨z22_49, ez22_49, hS⟩ := bv hS
    refine st1 h rfl rfl rfl (vB ez22_49 (v_eq rfl rfl)) fun a h => ?_
    refine st1 h rfl rfl rfl (v_move rfl) fun a h => ?_
    refine st_g h rfl rfl (gT rfl) rfl rfl (fun e0 => v_move rfl) fun a h => ?_
    obtain ⟨z25_50, ez25_50, hS⟩ := bv hS
    refine st_g h rfl rfl (gT rfl) rfl rfl (fun e0 => vB ez25_50 (v_lt (eg e0 rfl) rfl)) fun a h => ?_
    obtain ⟨z26_51, ez26_51, hS⟩ := bv hS
    refine st1 h rfl rfl rfl (vB ez26_51 (v_and rfl rfl)) fun a h => ?_
    refine st1 h rfl rfl rfl (v_assign rfl) fun a h => ?_
    refine c_nil hK ?_
    have h := h.only [4, 5, 6, 8, 16, 20] (l' := [_, _, _, _, _, _]) rfl
    refine c_cond h rfl (fun ec52 => ?_) (fun ec52 => ?_)
    ·
     have hS := ifT ec52 hS
     refine c_region fun K hK => ?_
     refine st1 h rfl rfl rfl (v_assign rfl) fun a h => ?_
     refine c_nil hK ?_
     refine c_exit ?_
     refine hx1_34 _ _ ?_
     exact hN29 _ _ _ (Nat.lt_succ_self _) ⟨_, (s28.1, 0, s28.2.2.1, nextP x0 s28.2.2.2), lpN en28 hS, (h.only [4, 5, 6, 16] (l' := [_, _, _, _]) rfl), H⟩
    ·
     have hS := ifF ec52 hS
     refine c_region fun K hK => ?_
     refine st1 h rfl rfl rfl (v_move rfl) fun a h => ?_
     obtain ⟨z29_53, ez29_53, hS⟩ := bv hS
     refine st1 h rfl rfl rfl (vB ez29_53 (v_lt rfl rfl)) fun a h => ?_
     refine st1 h rfl rfl rfl (v_move rfl) fun a h => ?_
     refine st_g h rfl rfl (gF rfl) rfl rfl (fun e0 => v_move rfl) fun a h => ?_
     obtain ⟨z32_54, ez32_54, hS⟩ := bv hS
     refine st_g h rfl rfl (gF rfl) rfl rfl (fun e0 => vB ez32_54 (v_gt (eg e0 rfl) rfl)) fun a h => ?_
     obtain ⟨z33_55, ez33_55, hS⟩ := bv hS
     refine st1 h rfl rfl rfl (vB ez33_55 (v_or rfl rfl)) fun a h => ?_
     refine st1 h rfl rfl rfl (v_move rfl) fun a h => ?_
     refine st_g h rfl rfl (gF rfl) rfl rfl (fun e0 => v_move rfl) fun a h => ?_
     obtain ⟨z36_56, ez36_56, hS⟩ := bv hS
     refine st_g h rfl rfl (gF rfl) rfl rfl (fun e0 => vB ez36_56 (v_eq (eg e0 rfl) rfl)) fun a h => ?_
     obtain ⟨z37_57, ez37_57, hS⟩ := bv hS
     refine st1 h rfl rfl rfl (vB ez37_57 (v_or rfl rfl)) fun a h => ?_
     refine st1 h rfl rfl rfl (v_assign rfl) fun a h => ?_
     refine c_nil hK ?_
     have h := h.only [4, 5, 6, 8, 16, 27] (l' := [_, _, _, _, _, _]) rfl
     refine c_cond h rfl (fun ec58 => ?_) (fun ec58 => ?_)
     ·
      have hS := ifT ec58 hS
      refine c_region fun K hK => ?_
      refine st1 h rfl rfl rfl (v_assign rfl) fun a h => ?_
      refine st1 h rfl rfl rfl (v_assign rfl) fun a h => ?_
      refine c_nil hK ?_
      have h := h.only [2, 3] (l' := [_, _]) rfl
      obtain rfl := so hS
      refine c_ret (hret34 _ _ (out2 h rfl rfl rfl ?_))
      exact ⟨rfl, H.out⟩
     ·
      have hS := ifF ec58 hS
      refine c_region fun K hK => ?_
      refine st1 h rfl rfl rfl (v_move rfl) fun a h => ?_
      obtain ⟨z40_59, ez40_59, hS⟩ := bv hS
      refine st1 h rfl rfl rfl (vB ez40_59 (v_ge rfl rfl)) fun a h => ?_
      refine st1 h rfl rfl rfl (v_assign rfl) fun a h => ?_
      refine c_nil hK ?_
      refine c_cond h rfl (fun ec60 => ?_) (fun ec60 => ?_)
      ·
       have hS := ifT ec60 hS
       refine c_lregion ?_
       refine st1 h rfl rfl rfl (v_move rfl) fun a h => ?_
       obtain ⟨z42_61, ez42_61, hS⟩ := bv hS
       refine st1 h rfl rfl rfl (vI ez42_61 (v_addw rfl rfl)) fun a h => ?_
       refine st1 h rfl rfl rfl (v_assign rfl) fun a h => ?_
       refine c_lnil ?_
       exact hN34 _ _ ⟨_, z42_61, hS, (h.only [4, 5, 6, 8, 16] (l' := [_, _, _, _, _]) rfl), H⟩
      ·
       have hS := ifF ec60 hS
       refine c_skip ?_
       exact hN34 _ _ ⟨_, s28.2.1, hS, (h.only [4, 5, 6, 8, 16] (l' := [_, _, _, _, _]) rfl), H⟩
  ·
   have hS := ifF ec32 hS
   refine c_exit ?_
   refine hx0_31 _ _ ?_
   exact hN1 _ _ ⟨_, (s28.1, s28.2.1, s28.2.2.1), hS, (h.only [4, 5, 6] (l' := [_, _, _]) rfl), (H.keepN 0 rfl)⟩

theorem value_ToNum_ok {x0 : V} {res : V} {w0 : World} (hS : value_ToNum x0 = some res) : Calls Tryz.prog 14 [.agg #[.int .i64 x0.k, .int .i64 x0.n, S x0.s]].toArray w0 (Ret fun v w => v = .agg #[.int .i64 res.k, .int .i64 res.n, S res.s] ∧ Ext w0 w) := by
 refine enter Tryz.func14 rfl rfl rfl fun Q a h hret0 hnor => ?_
 obtain ⟨Zi, Z, H⟩ : ∃ Zi Z, HZ w0 Zi Z [] w0 := ⟨_, _, HZ.start w0⟩
 have h := h.only [0] (l' := [_]) rfl
 unfold value_ToNum at hS
 refine c_region fun K hK => ?_
 refine z_box h H rfl [_, _, _] rfl rfl fun a p1_1 w X H h => ?_
 have H : HZ w0 _ _ [_] _ := H
 refine z_alloc h H Tryz.zeroValue25 [_, _, _] rfl rfl fun a p2_2 w X H h => ?_
 have H : HZ w0 _ _ [_, _] _ := H
 refine c_nil hK ?_
 refine c_seq _ (fun a w c => c) fun Q3 hN3 hO3 => ?_
 have hret3 := hO3.ret hret0
 refine c_region fun K hK => ?_
 refine st1 h rfl rfl rfl (v_fieldAddr rfl Tryz.underlying25 rfl Tryz.sizeOf3 rfl rfl) fun a h => ?_
 refine st1 h rfl rfl rfl (v_load1 rfl Tryz.isAgg3 (H.hp.get 0 rfl) rfl) fun a h => ?_
 refine c_nil hK ?_
 refine c_lblock fun Q4 hN4 hx0_4 hO4 => ?_
 have hret4 := hO4.ret hret3
 obtain ⟨J6, eJ6, hS⟩ := bv hS
 refine c_seq (fun a w => ∃ (Z : FZ) (s6 : Bool), J6 s6 = some res ∧ Fr 41 [(1, .pointer (some ⟨p1_1, 0, none⟩)), (2, .pointer (some ⟨p2_2, 0, none⟩)), (8, .int .i64 x0.k), (9, .bool s6)] a ∧ HZ w0 Zi Z [.blk p1_1 (Cel [.int .i64 x0.k, .int .i64 x0.n, S x0.s] 25), .blk p2_2 (Cel [.int .i64 0, .int .i64 0, S []] 25)] w) ?_ fun Q5 hN5 hO5 => ?_
 ·
  rintro a w ⟨Z, s6, hS, h, H⟩
  subst eJ6
  refine c_cond h rfl (fun ec7 => ?_) (fun ec7 => ?_)
  ·
   have hS := ifT ec7 hS
   refine c_region fun K hK => ?_
   refine st1 h rfl rfl rfl (v_loadA [_, _, _] rfl Tryz.isAgg25 Tryz.sizeOf25 (H.hp.get 0 rfl) rfl rfl) fun a h => ?_
   refine z_store h H 1 rfl rfl rfl Tryz.sizeOf25 [_, _, _] rfl rfl rfl (by simp) [_, _, _] rfl (hl' := [_, _]) rfl fun w H => ?_
   refine c_nil hK ?_
   have h := h.only [2] (l' := [_]) rfl
   obtain rfl := so hS
   refine c_ret (hret4 _ _ (out1 h rfl ⟨_, rfl, run_loadVar_agg (vs := [_, _, _]) Tryz.isAgg25 Tryz.sizeOf25 (H.hp.get 1 rfl) rfl rfl⟩ ?_))
   exact ⟨rfl, H.out⟩
  ·
   have hS := ifF ec7 hS
   refine c_region fun K hK => ?_
   obtain ⟨z14_8, ez14_8, hS⟩ := bv hS
   refine st1 h rfl rfl rfl (vB ez14_8 (v_eq rfl rfl)) fun a h => ?_
   refine st1 h rfl rfl rfl (v_assign rfl) fun a h => ?_
   refine c_nil hK ?_
   refine c_cond h rfl (fun ec9 => ?_) (fun ec9 => ?_)
   ·
    have hS := ifT ec9 hS
    refine c_region fun K hK => ?_
    obtain ⟨y15_10, hy15_10, hS⟩ := bo hS
    refine st2v (T := Ext) (V := .agg #[.int .i64 y15_10.k, .int .i64 y15_10.n, S y15_10.s]) h rfl rfl rfl (d_call [_] rfl Tryz.call22 (value_Num_ok (x0 := (0 : Int)) hy15_10)) fun w X a h => ?_
    have H := H.ext X
    refine z_store h H 1 rfl rfl rfl Tryz.sizeOf25 [_, _, _] rfl rfl rfl (by simp) [_, _, _] rfl (hl' := [_, _]) rfl fun w H => ?_
    refine c_nil hK ?_
    have h := h.only [2] (l' := [_]) rfl
    obtain rfl := so hS
    refine c_ret (hret4 _ _ (out1 h rfl ⟨_, rfl, run_loadVar_agg (vs := [_, _, _]) Tryz.isAgg25 Tryz.sizeOf25 (H.hp.get 1 rfl) rfl rfl⟩ ?_))
    exact ⟨rfl, H.out⟩
   ·
    have hS := ifF ec9 hS
    refine c_region fun K hK => ?_
    obtain ⟨z17_11, ez17_11, hS⟩ := bv hS
    refine st1 h rfl rfl rfl (vB ez17_11 (v_eq rfl rfl)) fun a h => ?_
    refine st1 h rfl rfl rfl (v_assign rfl) fun a h => ?_
    refine c_nil hK ?_
    have h := h.only [1, 2, 16] (l' := [_, _, _]) rfl
    refine c_cond h rfl (fun ec12 => ?_) (fun ec12 => ?_)
    ·
     have hS := ifT ec12 hS
     refine c_region fun K hK => ?_
     refine st1 h rfl rfl rfl (v_fieldAddr rfl Tryz.underlying25 rfl Tryz.sizeOf2 rfl rfl) fun a h => ?_
     refine st1 h rfl rfl rfl (v_load1 rfl Tryz.isAgg2 (H.hp.get 0 rfl) rfl) fun a h => ?_
     obtain ⟨z20_13, ez20_13, hS⟩ := bv hS
     refine st1 h rfl rfl rfl (vI ez20_13 (v_mulw rfl rfl)) fun a h => ?_
     obtain ⟨y21_14, hy21_14, hS⟩ := bo hS
     refine st2v (T := Ext) (V := .agg #[.int .i64 y21_14.k, .int .i64 y21_14.n, S y21_14.s]) h rfl rfl rfl (d_call [_] rfl Tryz.call22 (value_Num_ok (x0 := z20_13) hy21_14)) fun w X a h => ?_
     have H := H.ext X
     refine z_store h H 1 rfl rfl rfl Tryz.sizeOf25 [_, _, _] rfl rfl rfl (by simp) [_, _, _] rfl (hl' := [_, _]) rfl fun w H => ?_
     refine c_nil hK ?_
     have h := h.only [2] (l' := [_]) rfl
     obtain rfl := so hS
     refine c_ret (hret4 _ _ (out1 h rfl ⟨_, rfl, run_loadVar_agg (vs := [_, _, _]) Tryz.isAgg25 Tryz.sizeOf25 (H.hp.get 1 rfl) rfl rfl⟩ ?_))
     exact ⟨rfl, H.out⟩
    ·
     have hS := ifF ec12 hS
     refine c_skip ?_
     refine hN4 _ _ ?_
     refine hN3 _ _ ?_
     refine c_region fun K hK => ?_
     refine st1 h rfl rfl rfl (v_fieldAddr rfl Tryz.underlying25 rfl Tryz.sizeOf9 rfl rfl) fun a h => ?_
     refine st1 h rfl rfl rfl (v_load1 rfl Tryz.isAgg9 (H.hp.get 0 rfl) rfl) fun a h => ?_
     obtain ⟨z25_16, ez25_16, hS⟩ := bv hS
     refine st2v (T := Ext) (V := .tuple #[S z25_16.1, .bool z25_16.2]) h rfl rfl rfl ((by rw [ez25_16]; exact d_call [_, _] rfl Tryz.call32 (lib_cutPrefix))) fun w X a h => ?_
     have H := H.ext X
     refine st1 h rfl rfl rfl (v_move rfl) fun a h => ?_
     refine st1 h rfl rfl rfl (v_extract rfl rfl) fun a h => ?_
     refine st1 h rfl rfl rfl (v_extract rfl rfl) fun a h => ?_
     refine st1 h rfl rfl rfl (v_assign rfl) fun a h => ?_
     refine st1 h rfl rfl rfl (v_assign rfl) fun a h => ?_
     refine c_nil hK ?_
     have h := h.only [2, 3, 4] (l' := [_, _, _]) rfl
     refine c_region fun K hK => ?_
     refine st1 h rfl rfl rfl (v_move rfl) fun a h => ?_
     obtain ⟨y30_17, hy30_17, hS⟩ := bo hS
     refine st2v (T := Ext) (V := .tuple #[.int .i64 y30_17.1, .bool y30_17.2]) h rfl rfl rfl (d_call [_] rfl Tryz.call33 (num_Parse_ok (x0 := z25_16.1) hy30_17)) fun w X a h => ?_
     have H := H.ext X
     refine st1 h rfl rfl rfl (v_move rfl) fun a h => ?_
     refine st1 h rfl rfl rfl (v_extract rfl rfl) fun a h => ?_
     refine st1 h rfl rfl rfl (v_extract rfl rfl) fun a h => ?_
     refine st1 h rfl rfl rfl (v_assign rfl) fun a h => ?_
     refine st1 h rfl rfl rfl (v_assign rfl) fun a h => ?_
     refine c_nil hK ?_
     have h := h.only [2, 4, 5, 6] (l' := [_, _, _, _]) rfl
     refine c_seq _ (fun a w c => c) fun Q18 hN18 hO18 => ?_
     have hret18 := hO18.ret hret0
     refine c_region fun K hK => ?_
     refine st1 h rfl rfl rfl (v_move rfl) fun a h => ?_
     obtain ⟨z34_19, ez34_19, hS⟩ := bv hS
     refine st1 h rfl rfl rfl (vB ez34_19 (v_not rfl)) fun a h => ?_
     refine c_nil hK ?_
     refine c_cond h rfl (fun ec20 => ?_) (fun ec20 => ?_)
     ·
      have hS := ifT ec20 hS
      refine c_region fun K hK => ?_
      obtain ⟨y35_21, hy35_21, hS⟩ := bo hS
      refine st2v (T := Ext) (V := .agg #[.int .i64 y35_21.k, .int .i64 y35_21.n, S y35_21.s]) h rfl rfl rfl (d_call [_] rfl Tryz.call13 (value_Fail_ok (x0 := (2 : Int)) hy35_21)) fun w X a h => ?_
      have H := H.ext X
      refine z_store h H 1 rfl rfl rfl Tryz.sizeOf25 [_, _, _] rfl rfl rfl (by simp) [_, _, _] rfl (hl' := [_, _]) rfl fun w H => ?_
      refine c_nil hK ?_
      have h := h.only [2] (l' := [_]) rfl
      obtain rfl := so hS
      refine c_ret (hret18 _ _ (out1 h rfl ⟨_, rfl, run_loadVar_agg (vs := [_, _, _]) Tryz.isAgg25 Tryz.sizeOf25 (H.hp.get 1 rfl) rfl rfl⟩ ?_))
      exact ⟨rfl, H.out⟩
     ·
      have hS := ifF ec20 hS
      refine c_skip ?_
      refine hN18 _ _ ?_
      obtain ⟨J23, eJ23, hS⟩ := bv hS
      refine c_seq (fun a w => ∃ (Z : FZ) (s23 : Int), J23 s23 = some res ∧ Fr 41 [(2, .pointer (some ⟨p2_2, 0, none⟩)), (5, .int .i64 s23)] a ∧ HZ w0 Zi Z [.blk p1_1 (Cel [.int .i64 x0.k, .int .i64 x0.n, S x0.s] 25), .blk p2_2 (Cel [.int .i64 0, .int .i64 0, S []] 25)] w) ?_ fun Q22 hN22 hO22 => ?_
      ·
       rintro a w ⟨Z, s23, hS, h, H⟩
       subst eJ23
       refine c_region fun K hK => ?_
       refine st1 h rfl rfl rfl (v_move rfl) fun a h => ?_
       obtain ⟨y40_24, hy40_24, hS⟩ := bo hS
       refine st2v (T := Ext) (V := .agg #[.int .i64 y40_24.k, .int .i64 y40_24.n, S y40_24.s]) h rfl rfl rfl (d_call [_] rfl Tryz.call22 (value_Num_ok (x0 := s23) hy40_24)) fun w X a h => ?_
       have H := H.ext X
       refine z_store h H 1 rfl rfl rfl Tryz.sizeOf25 [_, _, _] rfl rfl rfl (by simp) [_, _, _] rfl (hl' := [_, _]) rfl fun w H => ?_
       refine c_nil hK ?_
       obtain rfl := so hS
       refine c_ret (hret0 _ _ (out1 h rfl ⟨_, rfl, run_loadVar_agg (vs := [_, _, _]) Tryz.isAgg25 Tryz.sizeOf25 (H.hp.get 1 rfl) rfl rfl⟩ ?_))
       exact ⟨rfl, H.out⟩
      ·
       have hret22 := hO22.ret hret0
       refine c_region fun K hK => ?_
       refine st1 h rfl rfl rfl (v_move rfl) fun a h => ?_
       refine c_nil hK ?_
       have h := h.only [2, 5, 36] (l' := [_, _, _]) rfl
       refine c_cond h rfl (fun ec25 => ?_) (fun ec25 => ?_)
       ·
        have hS := ifT ec25 hS
        refine c_lregion ?_
        refine st1 h rfl rfl rfl (v_move rfl) fun a h => ?_
        obtain ⟨z38_26, ez38_26, hS⟩ := bv hS
        refine st1 h rfl rfl rfl (vI ez38_26 (v_negw rfl)) fun a h => ?_
        refine st1 h rfl rfl rfl (v_assign rfl) fun a h => ?_
        refine c_lnil ?_
        exact hN22 _ _ ⟨_, z38_26, hS, (h.only [2, 5] (l' := [_, _]) rfl), H⟩
       ·
        have hS := ifF ec25 hS
        refine c_skip ?_
        exact hN22 _ _ ⟨_, y30_17.1, hS, (h.only [2, 5] (l' := [_, _]) rfl), H⟩
 ·
  have hret5 := hO5.ret hret4
  have hx0_5 := hO5.exit (i := 0) rfl hx0_4
  refine c_region fun K hK => ?_
  obtain ⟨z10_27, ez10_27, hS⟩ := bv hS
  refine st1 h rfl rfl rfl (vB ez10_27 (v_eq rfl rfl)) fun a h => ?_
  refine st1 h rfl rfl rfl (v_assign rfl) fun a h => ?_
  refine c_nil hK ?_
  refine c_cond h rfl (fun ec28 => ?_) (fun ec28 => ?_)
  ·
   have hS := ifT ec28 hS
   refine c_skip ?_
   exact hN5 _ _ ⟨_, z10_27, hS, (h.only [1, 2, 8, 9] (l' := [_, _, _, _]) rfl), H⟩
  ·
   have hS := ifF ec28 hS
   refine c_lregion ?_
   obtain ⟨z11_29, ez11_29, hS⟩ := bv hS
   refine st1 h rfl rfl rfl (vB ez11_29 (v_eq rfl rfl)) fun a h => ?_
   refine st1 h rfl rfl rfl (v_assign rfl) fun a h => ?_
   refine c_lnil ?_
   exact hN5 _ _ ⟨_, z11_29, hS, (h.only [1, 2, 8, 9] (l' := [_, _, _, _]) rfl), H⟩

theorem value_ToBool_ok {x0 : V} {res : V} {w0 : World} (hS : value_ToBool x0 = some res) : Calls Tryz.prog 94 [.agg #[.int .i64 x0.k, .int .i64 x0.n, S x0.s]].toArray w0 (Ret fun v w => v = .agg #[.int .i64 res.k, .int .i64 res.n, S res.s] ∧ Ext w0 w) := by
 refine enter Tryz.func94 rfl rfl rfl fun Q a h hret0 hnor => ?_
 obtain ⟨Zi, Z, H⟩ : ∃ Zi Z, HZ w0 Zi Z [] w0 := ⟨_, _, HZ.start w0⟩
 have h := h.only [0] (l' := [_]) rfl
 unfold value_ToBool at hS
 refine c_region fun K hK => ?_
 refine z_box h H rfl [_, _, _] rfl rfl fun a p1_1 w X H h => ?_
 have H : HZ w0 _ _ [_] _ := H
 refine z_alloc h H Tryz.zeroValue25 [_, _, _] rfl rfl fun a p2_2 w X H h => ?_
 have H : HZ w0 _ _ [_, _] _ := H
 refine c_nil hK ?_
 refine c_seq _ (fun a w c => c) fun Q3 hN3 hO3 => ?_
 have hret3 := hO3.ret hret0
 refine c_region fun K hK => ?_
 refine st1 h rfl rfl rfl (v_fieldAddr rfl Tryz.underlying25 rfl Tryz.sizeOf3 rfl rfl) fun a h => ?_
 refine st1 h rfl rfl rfl (v_load1 rfl Tryz.isAgg3 (H.hp.get 0 rfl) rfl) fun a h => ?_
 refine c_nil hK ?_
 refine c_lblock fun Q4 hN4 hx0_4 hO4 => ?_
 have hret4 := hO4.ret hret3
 obtain ⟨J6, eJ6, hS⟩ := bv hS
 refine c_seq (fun a w => ∃ (Z : FZ) (s6 : Bool), J6 s6 = some res ∧ Fr 31 [(1, .pointer (some ⟨p1_1, 0, none⟩)), (2, .pointer (some ⟨p2_2, 0, none⟩)), (4, .int .i64 x0.k), (5, .bool s6)] a ∧ HZ w0 Zi Z [.blk p1_1 (Cel [.int .i64 x0.k, .int .i64 x0.n, S x0.s] 25), .blk p2_2 (Cel [.int .i64 0, .int .i64 0, S []] 25)] w) ?_ fun Q5 hN5 hO5 => ?_
 ·
  rintro a w ⟨Z, s6, hS, h, H⟩
  subst eJ6
  refine c_cond h rfl (fun ec7 => ?_) (fun ec7 => ?_)
  ·
   have hS := ifT ec7 hS
   refine c_region fun K hK => ?_
   refine st1 h rfl rfl rfl (v_loadA [_, _, _] rfl Tryz.isAgg25 Tryz.sizeOf25 (H.hp.get 0 rfl) rfl rfl) fun a h => ?_
   refine z_store h H 1 rfl rfl rfl Tryz.sizeOf25 [_, _, _] rfl rfl rfl (by simp) [_, _, _] rfl (hl' := [_, _]) rfl fun w H => ?_
   refine c_nil hK ?_
   have h := h.only [2] (l' := [_]) rfl
   obtain rfl := so hS
   refine c_ret (hret4 _ _ (out1 h rfl ⟨_, rfl, run_loadVar_agg (vs := [_, _, _]) Tryz.isAgg25 Tryz.sizeOf25 (H.hp.get 1 rfl) rfl rfl⟩ ?_))
   exact ⟨rfl, H.out⟩
  ·
   have hS := ifF ec7 hS
   refine c_region fun K hK => ?_
   obtain ⟨z10_8, ez10_8, hS⟩ := bv hS
   refine st1 h rfl rfl rfl (vB ez10_8 (v_eq rfl rfl)) fun a h => ?_
   refine st1 h rfl rfl rfl (v_assign rfl) fun a h => ?_
   refine c_nil hK ?_
   refine c_cond h rfl (fun ec9 => ?_) (fun ec9 => ?_)
   ·
    have hS := ifT ec9 hS
    refine c_region fun K hK => ?_
    obtain ⟨y11_10, hy11_10, hS⟩ := bo hS
    refine st2v (T := Ext) (V := .agg #[.int .i64 y11_10.k, .int .i64 y11_10.n, S y11_10.s]) h rfl rfl rfl (d_call [_] rfl Tryz.call24 (value_Bool_ok (x0 := false) hy11_10)) fun w X a h => ?_
    have H := H.ext X
    refine z_store h H 1 rfl rfl rfl Tryz.sizeOf25 [_, _, _] rfl rfl rfl (by simp) [_, _, _] rfl (hl' := [_, _]) rfl fun w H => ?_
    refine c_nil hK ?_
    have h := h.only [2] (l' := [_]) rfl
    obtain rfl := so hS
    refine c_ret (hret4 _ _ (out1 h rfl ⟨_, rfl, run_loadVar_agg (vs := [_, _, _]) Tryz.isAgg25 Tryz.sizeOf25 (H.hp.get 1 rfl) rfl rfl⟩ ?_))
    exact ⟨rfl, H.out⟩
   ·
    have hS := ifF ec9 hS
    refine c_region fun K hK => ?_
    obtain ⟨z13_11, ez13_11, hS⟩ := bv hS
    refine st1 h rfl rfl rfl (vB ez13_11 (v_eq rfl rfl)) fun a h => ?_
    refine st1 h rfl rfl rfl (v_assign rfl) fun a h => ?_
    refine c_nil hK ?_
    have h := h.only [1, 2, 12] (l' := [_, _, _]) rfl
    refine c_cond h rfl (fun ec12 => ?_) (fun ec12 => ?_)
    ·
     have hS := ifT ec12 hS
     refine c_region fun K hK => ?_
     refine st1 h rfl rfl rfl (v_fieldAddr rfl Tryz.underlying25 rfl Tryz.sizeOf2 rfl rfl) fun a h => ?_
     refine st1 h rfl rfl rfl (v_load1 rfl Tryz.isAgg2 (H.hp.get 0 rfl) rfl) fun a h => ?_
     obtain ⟨z16_13, ez16_13, hS⟩ := bv hS
     refine st1 h rfl rfl rfl (vB ez16_13 (v_ne rfl rfl)) fun a h => ?_
     obtain ⟨y17_14, hy17_14, hS⟩ := bo hS
     refine st2v (T := Ext) (V := .agg #[.int .i64 y17_14.k, .int .i64 y17_14.n, S y17_14.s]) h rfl rfl rfl (d_call [_] rfl Tryz.call24 (value_Bool_ok (x0 := z16_13) hy17_14)) fun w X a h => ?_
     have H := H.ext X
     refine z_store h H 1 rfl rfl rfl Tryz.sizeOf25 [_, _, _] rfl rfl rfl (by simp) [_, _, _] rfl (hl' := [_, _]) rfl fun w H => ?_
     refine c_nil hK ?_
     have h := h.only [2] (l' := [_]) rfl
     obtain rfl := so hS
     refine c_ret (hret4 _ _ (out1 h rfl ⟨_, rfl, run_loadVar_agg (vs := [_, _, _]) Tryz.isAgg25 Tryz.sizeOf25 (H.hp.get 1 rfl) rfl rfl⟩ ?_))
     exact ⟨rfl, H.out⟩
    ·
     have hS := ifF ec12 hS
     refine c_skip ?_
     refine hN4 _ _ ?_
     refine hN3 _ _ ?_
     refine c_seq _ (fun a w c => c) fun Q15 hN15 hO15 => ?_
     have hret15 := hO15.ret hret0
     refine c_region fun K hK => ?_
     refine st1 h rfl rfl rfl (v_fieldAddr rfl Tryz.underlying25 rfl Tryz.sizeOf9 rfl rfl) fun a h => ?_
     refine st1 h rfl rfl rfl (v_load1 rfl Tryz.isAgg9 (H.hp.get 0 rfl) rfl) fun a h => ?_
     obtain ⟨z20_16, ez20_16, hS⟩ := bv hS
     refine st1 h rfl rfl rfl (vB ez20_16 (v_seq rfl rfl)) fun a h => ?_
     refine st1 h rfl rfl rfl (v_move rfl) fun a h => ?_
     refine st_g h rfl rfl (gF rfl) rfl rfl (fun e0 => v_fieldAddr rfl Tryz.underlying25 rfl Tryz.sizeOf9 rfl rfl) fun a h => ?_
     refine st_g h rfl rfl (gF rfl) rfl rfl (fun e0 => v_load1 (eg e0 rfl) Tryz.isAgg9 (H.hp.get 0 rfl) rfl) fun a h => ?_
     obtain ⟨z24_17, ez24_17, hS⟩ := bv hS
     refine st_g h rfl rfl (gF rfl) rfl rfl (fun e0 => vB ez24_17 (v_seq (eg e0 rfl) rfl)) fun a h => ?_
     obtain ⟨z25_18, ez25_18, hS⟩ := bv hS
     refine st1 h rfl rfl rfl (vB ez25_18 (v_or rfl rfl)) fun a h => ?_
     refine c_nil hK ?_
     have h := h.only [1, 2, 25] (l' := [_, _, _]) rfl
     refine c_cond h rfl (fun ec19 => ?_) (fun ec19 => ?_)
     ·
      have hS := ifT ec19 hS
      refine c_region fun K hK => ?_
      refine st1 h rfl rfl rfl (v_fieldAddr rfl Tryz.underlying25 rfl Tryz.sizeOf9 rfl rfl) fun a h => ?_
      refine st1 h rfl rfl rfl (v_load1 rfl Tryz.isAgg9 (H.hp.get 0 rfl) rfl) fun a h => ?_
      obtain ⟨z28_20, ez28_20, hS⟩ := bv hS
      refine st1 h rfl rfl rfl (vB ez28_20 (v_seq rfl rfl)) fun a h => ?_
      obtain ⟨y29_21, hy29_21, hS⟩ := bo hS
      refine st2v (T := Ext) (V := .agg #[.int .i64 y29_21.k, .int .i64 y29_21.n, S y29_21.s]) h rfl rfl rfl (d_call [_] rfl Tryz.call24 (value_Bool_ok (x0 := z28_20) hy29_21)) fun w X a h => ?_
      have H := H.ext X
      refine z_store h H 1 rfl rfl rfl Tryz.sizeOf25 [_, _, _] rfl rfl rfl (by simp) [_, _, _] rfl (hl' := [_, _]) rfl fun w H => ?_
      refine c_nil hK ?_
      have h := h.only [2] (l' := [_]) rfl
      obtain rfl := so hS
      refine c_ret (hret15 _ _ (out1 h rfl ⟨_, rfl, run_loadVar_agg (vs := [_, _, _]) Tryz.isAgg25 Tryz.sizeOf25 (H.hp.get 1 rfl) rfl rfl⟩ ?_))
      exact ⟨rfl, H.out⟩
     ·
      have hS := ifF ec19 hS
      refine c_skip ?_
      refine hN15 _ _ ?_
      refine c_region fun K hK => ?_
      obtain ⟨y30_22, hy30_22, hS⟩ := bo hS
      refine st2v (T := Ext) (V := .agg #[.int .i64 y30_22.k, .int .i64 y30_22.n, S y30_22.s]) h rfl rfl rfl (d_call [_] rfl Tryz.call13 (value_Fail_ok (x0 := (2 : Int)) hy30_22)) fun w X a h => ?_
      have H := H.ext X
      refine z_store h H 1 rfl rfl rfl Tryz.sizeOf25 [_, _, _] rfl rfl rfl (by simp) [_, _, _] rfl (hl' := [_, _]) rfl fun w H => ?_
      refine c_nil hK ?_
      obtain rfl := so hS
      refine c_ret (hret0 _ _ (out1 h rfl ⟨_, rfl, run_loadVar_agg (vs := [_, _, _]) Tryz.isAgg25 Tryz.sizeOf25 (H.hp.get 1 rfl) rfl rfl⟩ ?_))
      exact ⟨rfl, H.out⟩
 ·
  have hret5 := hO5.ret hret4
  have hx0_5 := hO5.exit (i := 0) rfl hx0_4
  refine c_region fun K hK => ?_
  obtain ⟨z6_23, ez6_23, hS⟩ := bv hS
  refine st1 h rfl rfl rfl (vB ez6_23 (v_eq rfl rfl)) fun a h => ?_
  refine st1 h rfl rfl rfl (v_assign rfl) fun a h => ?_
  refine c_nil hK ?_
  refine c_cond h rfl (fun ec24 => ?_) (fun ec24 => ?_)
  ·
   have hS := ifT ec24 hS
   refine c_skip ?_
   exact hN5 _ _ ⟨_, z6_23, hS, (h.only [1, 2, 4, 5] (l' := [_, _, _, _]) rfl), H⟩
  ·
   have hS := ifF ec24 hS
   refine c_lregion ?_
   obtain ⟨z7_25, ez7_25, hS⟩ := bv hS
   refine st1 h rfl rfl rfl (vB ez7_25 (v_eq rfl rfl)) fun a h => ?_
   refine st1 h rfl rfl rfl (v_assign rfl) fun a h => ?_
   refine c_lnil ?_
   exact hN5 _ _ ⟨_, z7_25, hS, (h.only [1, 2, 4, 5] (l' := [_, _, _, _]) rfl), H⟩

theorem tree_Number_ok {x0 : List UInt8} {res : Int} {w0 : World} (hS : tree_Number x0 = some res) (hG : GW w0) : Calls Tryz.prog 16 [S x0].toArray w0 (Ret fun v w => v = .int .i64 res ∧ Ext w0 w) := by
 refine enter Tryz.func16 rfl rfl rfl fun Q a h hret0 hnor => ?_
 obtain ⟨Zi, Z, H⟩ : ∃ Zi Z, HZ w0 Zi Z [] w0 := ⟨_, _, HZ.start w0⟩
 have h := h.only [0] (l' := [_]) rfl
 unfold tree_Number at hS
 refine c_region fun K hK => ?_
 refine st1 h rfl rfl rfl (v_assign rfl) fun a h => ?_
 refine c_nil hK ?_
 obtain ⟨J2, eJ2, hS⟩ := bv hS
 refine c_seq (fun a w => ∃ (Z : FZ) (s2 : Unit), J2 s2 = some res ∧ Fr 22 [] a ∧ HZ w0 Zi Z [] w) ?_ fun Q1 hN1 hO1 => ?_
 ·
  rintro a w ⟨Z, s2, hS, h, H⟩
  subst eJ2
  refine c_region fun K hK => ?_
  refine st1 h rfl rfl rfl (v_assign rfl) fun a h => ?_
  refine c_nil hK ?_
  obtain rfl := so hS
  refine c_ret (hret0 _ _ (out1 h rfl rfl ?_))
  exact ⟨rfl, H.out⟩
 ·
  have hret1 := hO1.ret hret0
  refine c_region fun K hK => ?_
  obtain ⟨c4, hS⟩ := ck hS
  obtain ⟨z5_5, ez5_5, hS⟩ := bv hS
  refine z_callR (data := z5_5) h H rfl rfl rfl ((by rw [ez5_5]; exact d_call [_] rfl Tryz.call31 (lib_fields c4 (hG.ext H.out)))) fun v5_6 Z w hsub X H r5_6 a h => ?_
  refine st1 h rfl rfl rfl (v_len Tryz.underlying36 rfl (r5_6.at H.zin)) fun a h => ?_
  refine st1 h rfl rfl rfl (v_move rfl) fun a h => ?_
  refine c_nil hK ?_
  refine c_lblock fun Q7 hN7 hx0_7 hO7 => ?_
  have hret7 := hO7.ret hret1
  obtain ⟨B8, eB8, hS⟩ := bv hS
  refine c_loopN (fun mu_ a w => ∃ (Z : FZ) (s8 : Int), loopF B8 mu_ s8 = some res ∧ Fr 22 [(0, S x0), (5, v5_6), (6, .int .i64 (z5_5.length : Int)), (7, .int .i64 s8)] a ∧ HZ w0 Zi Z [] w ∧ RdZ Z v5_6 1 eS z5_5) KK ⟨_, 0, hS, (h.only [0, 5, 6, 7] (l' := [_, _, _, _]) rfl), H, r5_6⟩ ?_
  rintro mu_ a w ⟨Z, s8, hS, h, H, r5_6⟩ Q9 hN9 hO9
  obtain ⟨mu_, rfl, n8, en8, hS⟩ := lpX eB8 hS
  have hret9 := hO9.ret hret7
  have hx0_9 := hO9.exit (i := 0) rfl hx0_7
  refine c_region fun K hK => ?_
  obtain ⟨z8_10, ez8_10, hS⟩ := bv hS
  refine st1 h rfl rfl rfl (vB ez8_10 (v_lt rfl rfl)) fun a h => ?_
  refine c_nil hK ?_
  refine c_seq _ (fun a w c => c) fun Q11 hN11 hO11 => ?_
  have hret11 := hO11.ret hret9
  have hx0_11 := hO11.exit (i := 0) rfl hx0_9
  refine c_cond h rfl (fun ec12 => ?_) (fun ec12 => ?_)
  ·
   have hS := ifT ec12 hS
   refine c_skip ?_
   refine hN11 _ _ ?_
   refine c_block _ (fun a w c => c) fun Q13 hN13 hx1_13 hO13 => ?_
   have hret13 := hO13.ret hret9
   have hx0_13 := hO13.exit (i := 0) rfl hx0_9
   refine c_region fun K hK => ?_
   refine st1 h rfl rfl rfl (v_move rfl) fun a h => ?_
   obtain ⟨c14, hS⟩ := ck hS
   obtain ⟨z10_15, ez10_15, hS⟩ := bv hS
   refine st_idx h Tryz.underlying36 Tryz.sizeOf9 rfl rfl (r5_6.at H.zin) (fun _ => rfl) z10_15 c14.1 (by rw [ez10_15]; exact gel_some c14) rfl fun a v10 A10 h => ?_
   refine st1 h rfl rfl rfl (v_loadAt1 rfl A10 Tryz.isAgg9 rfl) fun a h => ?_
   refine st1 h rfl rfl rfl (v_assign rfl) fun a h => ?_
   refine st1 h rfl rfl rfl (v_assign rfl) fun a h => ?_
   refine c_nil hK ?_
   have h := h.only [0, 3, 4, 5, 6, 7] (l' := [_, _, _, _, _, _]) rfl
   refine c_region fun K hK => ?_
   refine st1 h rfl rfl rfl (v_move rfl) fun a h => ?_
   refine st1 h rfl rfl rfl (v_move rfl) fun a h => ?_
   refine st1 h rfl rfl rfl (v_slen Tryz.underlying9 rfl) fun a h => ?_
   obtain ⟨z15_16, ez15_16, hS⟩ := bv hS
   refine st1 h rfl rfl rfl (vI ez15_16 (v_subw rfl rfl)) fun a h => ?_
   obtain ⟨c17, hS⟩ := ck hS
   obtain ⟨z16_18, ez16_18, hS⟩ := bv hS
   refine st1 h rfl rfl rfl (vS ez16_18 (v_scutHi Tryz.underlying9 rfl rfl c17)) fun a h => ?_
   refine st1 h rfl rfl rfl (v_move rfl) fun a h => ?_
   obtain ⟨z18_19, ez18_19, hS⟩ := bv hS
   refine st1 h rfl rfl rfl (vB ez18_19 (v_seq rfl rfl)) fun a h => ?_
   refine c_nil hK ?_
   have h := h.only [0, 3, 5, 6, 7, 18] (l' := [_, _, _, _, _, _]) rfl
   refine c_cond h rfl (fun ec20 => ?_) (fun ec20 => ?_)
   ·
    have hS := ifT ec20 hS
    refine c_region fun K hK => ?_
    refine st1 h rfl rfl rfl (v_move rfl) fun a h => ?_
    obtain ⟨z20_21, ez20_21, hS⟩ := bv hS
    refine st1 h rfl rfl rfl (vI ez20_21 (v_addw rfl rfl)) fun a h => ?_
    refine st1 h rfl rfl rfl (v_assign rfl) fun a h => ?_
    refine c_nil hK ?_
    have h := h.only [2] (l' := [_]) rfl
    obtain rfl := so hS
    refine c_ret (hret13 _ _ (out1 h rfl rfl ?_))
    exact ⟨rfl, H.out⟩
   ·
    have hS := ifF ec20 hS
    refine c_skip ?_
    refine hN13 _ _ ?_
    refine c_lregion ?_
    obtain ⟨z21_22, ez21_22, hS⟩ := bv hS
    refine st1 h rfl rfl rfl (vI ez21_22 (v_addw rfl rfl)) fun a h => ?_
    refine st1 h rfl rfl rfl (v_move rfl) fun a h => ?_
    refine c_lnil ?_
    exact hN9 _ _ _ (Nat.lt_succ_self _) ⟨_, z21_22, lpN en8 hS, (h.only [0, 5, 6, 7] (l' := [_, _, _, _]) rfl), H, r5_6⟩
  ·
   have hS := ifF ec12 hS
   refine c_exit ?_
   refine hx0_11 _ _ ?_
   exact hN1 _ _ ⟨_, (), hS, (h.only [] (l' := []) rfl), H⟩

theorem tree_Name_ok {x0 : Int} {res : (List UInt8)} {w0 : World} (hS : tree_Name x0 = some res) (hG : GW w0) : Calls Tryz.prog 27 [.int .i64 x0].toArray w0 (Ret fun v w => v = S res ∧ Ext w0 w) := by
 refine enter Tryz.func27 rfl rfl rfl fun Q a h hret0 hnor => ?_
 obtain ⟨Zi, Z, H⟩ : ∃ Zi Z, HZ w0 Zi Z [] w0 := ⟨_, _, HZ.start w0⟩
 have h := h.only [0] (l' := [_]) rfl
 unfold tree_Name at hS
 refine c_region fun K hK => ?_
 refine st1 h rfl rfl rfl (v_assign rfl) fun a h => ?_
 refine c_nil hK ?_
 refine c_region fun K hK => ?_
 obtain ⟨c2, hS⟩ := ck hS
 obtain ⟨z4_3, ez4_3, hS⟩ := bv hS
 refine z_callR (data := z4_3) h H rfl rfl rfl ((by rw [ez4_3]; exact d_call [_] rfl Tryz.call31 (lib_fields c2 (hG.ext H.out)))) fun v4_4 Z w hsub X H r4_4 a h => ?_
 refine st1 h rfl rfl rfl (v_assign rfl) fun a h => ?_
 refine c_nil hK ?_
 refine c_seq _ (fun a w c => c) fun Q5 hN5 hO5 => ?_
 have hret5 := hO5.ret hret0
 refine c_region fun K hK => ?_
 refine st1 h rfl rfl rfl (v_move rfl) fun a h => ?_
 obtain ⟨z6_6, ez6_6, hS⟩ := bv hS
 refine st1 h rfl rfl rfl (vB ez6_6 (v_lt rfl rfl)) fun a h => ?_
 refine st1 h rfl rfl rfl (v_move rfl) fun a h => ?_
 refine st_g h rfl rfl (gF rfl) rfl rfl (fun e0 => v_move rfl) fun a h => ?_
 refine st_g h rfl rfl (gF rfl) rfl rfl (fun e0 => v_move rfl) fun a h => ?_
 refine st_g h rfl rfl (gF rfl) rfl rfl (fun e0 => v_len Tryz.underlying36 (eg e0 rfl) (r4_4.at H.zin)) fun a h => ?_
 obtain ⟨z11_7, ez11_7, hS⟩ := bv hS
 refine st_g h rfl rfl (gF rfl) rfl rfl (fun e0 => vB ez11_7 (v_gt (eg e0 rfl) (eg e0 rfl))) fun a h => ?_
 obtain ⟨z12_8, ez12_8, hS⟩ := bv hS
 refine st1 h rfl rfl rfl (vB ez12_8 (v_or rfl rfl)) fun a h => ?_
 refine c_nil hK ?_
 have h := h.only [0, 3, 12] (l' := [_, _, _]) rfl
 refine c_cond h rfl (fun ec9 => ?_) (fun ec9 => ?_)
 ·
  have hS := ifT ec9 hS
  refine c_region fun K hK => ?_
  refine st1 h rfl rfl rfl (v_assign rfl) fun a h => ?_
  refine c_nil hK ?_
  obtain rfl := so hS
  refine c_ret (hret5 _ _ (out1 h rfl rfl ?_))
  exact ⟨rfl, H.out⟩
 ·
  have hS := ifF ec9 hS
  refine c_skip ?_
  refine hN5 _ _ ?_
  refine c_flow h (by kernel_rfl) (by kernel_rfl) ?_
  refine f1 [3] rfl rfl rfl rfl (fun w X => v_move rfl) ?_
  refine f1 [0] rfl rfl rfl rfl (fun w X => v_move rfl) ?_
  obtain ⟨z15_10, ez15_10, hS⟩ := bv hS
  refine f1 [14] rfl rfl rfl rfl (fun w X => vI ez15_10 (v_subw rfl rfl)) ?_
  obtain ⟨c11, hS⟩ := ck hS
  obtain ⟨z16_12, ez16_12, hS⟩ := bv hS
  refine f_op [13, 15] rfl rfl rfl rfl false (.rel (fun w' v' => At w' v' eS z16_12 0)) at_stab (fun w X => ?_) ?_
  ·
   skip
   exact have H := H.ext X; d_idx Tryz.underlying36 Tryz.sizeOf9 rfl rfl (r4_4.at H.zin) (fun _ => rfl) z16_12 c11.1 (by rw [ez16_12]; exact gel_some c11)
  refine f_op [16] rfl rfl rfl rfl false (.eq (S z16_12)) trivial (fun w X => ?_) ?_
  ·
   intro v16 h16
   exact (v_loadAt1 rfl h16 Tryz.isAgg9 rfl).doesF
  refine f1 [3] rfl rfl rfl rfl (fun w X => v_move rfl) ?_
  refine f1 [0] rfl rfl rfl rfl (fun w X => v_move rfl) ?_
  obtain ⟨z20_13, ez20_13, hS⟩ := bv hS
  refine f1 [19] rfl rfl rfl rfl (fun w X => vI ez20_13 (v_subw rfl rfl)) ?_
  obtain ⟨c14, hS⟩ := ck hS
  obtain ⟨z21_15, ez21_15, hS⟩ := bv hS
  refine f_op [18, 20] rfl rfl rfl rfl false (.rel (fun w' v' => At w' v' eS z21_15 0)) at_stab (fun w X => ?_) ?_
  ·
   skip
   exact have H := H.ext X; d_idx Tryz.underlying36 Tryz.sizeOf9 rfl rfl (r4_4.at H.zin) (fun _ => rfl) z21_15 c14.1 (by rw [ez21_15]; exact gel_some c14)
  refine f_op [21] rfl rfl rfl rfl false (.eq (S z21_15)) trivial (fun w X => ?_) ?_
  ·
   intro v21 h21
   exact (v_loadAt1 rfl h21 Tryz.isAgg9 rfl).doesF
  refine f1 [22] rfl rfl rfl rfl (fun w X => v_slen Tryz.underlying9 rfl) ?_
  obtain ⟨z24_16, ez24_16, hS⟩ := bv hS
  refine f1 [23] rfl rfl rfl rfl (fun w X => vI ez24_16 (v_subw rfl rfl)) ?_
  obtain ⟨c17, hS⟩ := ck hS
  obtain ⟨z25_18, ez25_18, hS⟩ := bv hS
  refine f1 [17, 24] rfl rfl rfl rfl (fun w X => vS ez25_18 (v_scutHi Tryz.underlying9 rfl rfl c17)) ?_
  refine f1 [25] rfl rfl rfl rfl (fun w X => v_assign rfl) ?_
  refine fn_ ?_
  intro a w X hR hA
  have h := hR.out [2]
  have h : Fr 26 [(2, _)] a := h
  have H := H.ext X
  obtain rfl := so hS
  refine c_ret (hret0 _ _ (out1 h rfl rfl ?_))
  exact ⟨rfl, H.out⟩

theorem tree_Fits_ok {x0 : Int} {x1 : Int} {res : Bool} {w0 : World} (hS : tree_Fits x0 x1 = some res) (hG : GW w0) : Calls Tryz.prog 12 [.int .i64 x0, .int .i64 x1].toArray w0 (Ret fun v w => v = .bool res ∧ Ext w0 w) := by
 refine enter Tryz.func12 rfl rfl rfl fun Q a h hret0 hnor => ?_
 obtain ⟨Zi, Z, H⟩ : ∃ Zi Z, HZ w0 Zi Z [] w0 := ⟨_, _, HZ.start w0⟩
 have h := h.only [0, 1] (l' := [_, _]) rfl
 unfold tree_Fits at hS
 refine c_region fun K hK => ?_
 refine st1 h rfl rfl rfl (v_assign rfl) fun a h => ?_
 refine c_nil hK ?_
 refine c_region fun K hK => ?_
 obtain ⟨c2, hS⟩ := ck hS
 obtain ⟨z7_3, ez7_3, hS⟩ := bv hS
 refine z_callR (data := z7_3) h H rfl rfl rfl ((by rw [ez7_3]; exact d_call [_] rfl Tryz.call31 (lib_fields c2 (hG.ext H.out)))) fun v7_4 Z w hsub X H r7_4 a h => ?_
 refine st1 h rfl rfl rfl (v_assign rfl) fun a h => ?_
 refine c_nil hK ?_
 refine c_seq _ (fun a w c => c) fun Q5 hN5 hO5 => ?_
 have hret5 := hO5.ret hret0
 refine c_region fun K hK => ?_
 refine st1 h rfl rfl rfl (v_move rfl) fun a h => ?_
 obtain ⟨z9_6, ez9_6, hS⟩ := bv hS
 refine st1 h rfl rfl rfl (vB ez9_6 (v_lt rfl rfl)) fun a h => ?_
 refine st1 h rfl rfl rfl (v_move rfl) fun a h => ?_
 refine st_g h rfl rfl (gF rfl) rfl rfl (fun e0 => v_move rfl) fun a h => ?_
 refine st_g h rfl rfl (gF rfl) rfl rfl (fun e0 => v_move rfl) fun a h => ?_
 refine st_g h rfl rfl (gF rfl) rfl rfl (fun e0 => v_len Tryz.underlying36 (eg e0 rfl) (r7_4.at H.zin)) fun a h => ?_
 obtain ⟨z14_7, ez14_7, hS⟩ := bv hS
 refine st_g h rfl rfl (gF rfl) rfl rfl (fun e0 => vB ez14_7 (v_gt (eg e0 rfl) (eg e0 rfl))) fun a h => ?_
 obtain ⟨z15_8, ez15_8, hS⟩ := bv hS
 refine st1 h rfl rfl rfl (vB ez15_8 (v_or rfl rfl)) fun a h => ?_
 refine c_nil hK ?_
 have h := h.only [0, 1, 5, 15] (l' := [_, _, _, _]) rfl
 refine c_cond h rfl (fun ec9 => ?_) (fun ec9 => ?_)
 ·
  have hS := ifT ec9 hS
  refine c_region fun K hK => ?_
  refine st1 h rfl rfl rfl (v_assign rfl) fun a h => ?_
  refine c_nil hK ?_
  have h := h.only [4] (l' := [_]) rfl
  obtain rfl := so hS
  refine c_ret (hret5 _ _ (out1 h rfl rfl ?_))
  exact ⟨rfl, H.out⟩
 ·
  have hS := ifF ec9 hS
  refine c_skip ?_
  refine hN5 _ _ ?_
  refine c_region fun K hK => ?_
  refine st1 h rfl rfl rfl (v_move rfl) fun a h => ?_
  refine st1 h rfl rfl rfl (v_move rfl) fun a h => ?_
  obtain ⟨z18_10, ez18_10, hS⟩ := bv hS
  refine st1 h rfl rfl rfl (vI ez18_10 (v_subw rfl rfl)) fun a h => ?_
  obtain ⟨c11, hS⟩ := ck hS
  obtain ⟨z19_12, ez19_12, hS⟩ := bv hS
  refine st_idx h Tryz.underlying36 Tryz.sizeOf9 rfl rfl (r7_4.at H.zin) (fun _ => rfl) z19_12 c11.1 (by rw [ez19_12]; exact gel_some c11) rfl fun a v19 A19 h => ?_
  refine st1 h rfl rfl rfl (v_loadAt1 rfl A19 Tryz.isAgg9 rfl) fun a h => ?_
  refine st1 h rfl rfl rfl (v_assign rfl) fun a h => ?_
  refine c_nil hK ?_
  have h := h.only [1, 6] (l' := [_, _]) rfl
  refine c_region fun K hK => ?_
  refine st1 h rfl rfl rfl (v_move rfl) fun a h => ?_
  refine st1 h rfl rfl rfl (v_move rfl) fun a h => ?_
  refine st1 h rfl rfl rfl (v_move rfl) fun a h => ?_
  refine st1 h rfl rfl rfl (v_slen Tryz.underlying9 rfl) fun a h => ?_
  obtain ⟨z25_13, ez25_13, hS⟩ := bv hS
  refine st1 h rfl rfl rfl (vI ez25_13 (v_subw rfl rfl)) fun a h => ?_
  obtain ⟨c14, hS⟩ := ck hS
  obtain ⟨z26_15, ez26_15, hS⟩ := bv hS
  refine st1 h rfl rfl rfl (vI ez26_15 (v_sidx Tryz.underlying9 rfl rfl c14)) fun a h => ?_
  obtain ⟨z27_16, ez27_16, hS⟩ := bv hS
  refine st1 h rfl rfl rfl (vI ez27_16 (v_subw rfl rfl)) fun a h => ?_
  obtain ⟨z28_17, ez28_17, hS⟩ := bv hS
  refine st1 h rfl rfl rfl (vI ez28_17 (v_convInt (by rw [Tryz.underlying5]; rfl) Tryz.underlying3 rfl rfl)) fun a h => ?_
  obtain ⟨z29_18, ez29_18, hS⟩ := bv hS
  refine st1 h rfl rfl rfl (vB ez29_18 (v_ge rfl rfl)) fun a h => ?_
  refine st1 h rfl rfl rfl (v_move rfl) fun a h => ?_
  refine st_g h rfl rfl (gT rfl) rfl rfl (fun e0 => v_move rfl) fun a h => ?_
  refine st_g h rfl rfl (gT rfl) rfl rfl (fun e0 => v_move rfl) fun a h => ?_
  refine st_g h rfl rfl (gT rfl) rfl rfl (fun e0 => v_move rfl) fun a h => ?_
  refine st_g h rfl rfl (gT rfl) rfl rfl (fun e0 => v_slen Tryz.underlying9 (eg e0 rfl)) fun a h => ?_
  obtain ⟨z35_19, ez35_19, hS⟩ := bv hS
  refine st_g h rfl rfl (gT rfl) rfl rfl (fun e0 => vI ez35_19 (v_subw (eg e0 rfl) rfl)) fun a h => ?_
  obtain ⟨c20, hS⟩ := ck hS
  obtain ⟨z36_21, ez36_21, hS⟩ := bv hS
  refine st_g h rfl rfl (gT rfl) rfl rfl (fun e0 => vI ez36_21 (v_sidx Tryz.underlying9 (eg e0 rfl) (eg e0 rfl) (c20 e0))) fun a h => ?_
  obtain ⟨z37_22, ez37_22, hS⟩ := bv hS
  refine st_g h rfl rfl (gT rfl) rfl rfl (fun e0 => vI ez37_22 (v_subw (eg e0 rfl) rfl)) fun a h => ?_
  obtain ⟨z38_23, ez38_23, hS⟩ := bv hS
  refine st_g h rfl rfl (gT rfl) rfl rfl (fun e0 => vI ez38_23 (v_convInt (by rw [Tryz.underlying5]; rfl) Tryz.underlying3 (eg e0 rfl) rfl)) fun a h => ?_
  obtain ⟨z39_24, ez39_24, hS⟩ := bv hS
  refine st_g h rfl rfl (gT rfl) rfl rfl (fun e0 => vB ez39_24 (v_le (eg e0 rfl) (eg e0 rfl))) fun a h => ?_
  obtain ⟨z40_25, ez40_25, hS⟩ := bv hS
  refine st1 h rfl rfl rfl (vB ez40_25 (v_and rfl rfl)) fun a h => ?_
  refine st1 h rfl rfl rfl (v_assign rfl) fun a h => ?_
  refine c_nil hK ?_
  have h := h.only [4] (l' := [_]) rfl
  obtain rfl := so hS
  refine c_ret (hret0 _ _ (out1 h rfl rfl ?_))
  exact ⟨rfl, H.out⟩

theorem num_Of_ok {x0 : Int} {res : Int × Bool} {w0 : World} (hS : num_Of x0 = some res) : Calls Tryz.prog 43 [.int .i64 x0].toArray w0 (Ret fun v w => v = .tuple #[.int .i64 res.1, .bool res.2] ∧ Ext w0 w) := by
 refine enter Tryz.func43 rfl rfl rfl fun Q a h hret0 hnor => ?_
 obtain ⟨Zi, Z, H⟩ : ∃ Zi Z, HZ w0 Zi Z [] w0 := ⟨_, _, HZ.start w0⟩
 have h := h.only [0] (l' := [_]) rfl
 unfold num_Of at hS
 refine c_region fun K hK => ?_
 refine st1 h rfl rfl rfl (v_assign rfl) fun a h => ?_
 refine st1 h rfl rfl rfl (v_assign rfl) fun a h => ?_
 refine c_nil hK ?_
 refine c_seq _ (fun a w c => c) fun Q1 hN1 hO1 => ?_
 have hret1 := hO1.ret hret0
 refine c_region fun K hK => ?_
 refine st1 h rfl rfl rfl (v_move rfl) fun a h => ?_
 obtain ⟨z5_2, ez5_2, hS⟩ := bv hS
 refine st1 h rfl rfl rfl (vB ez5_2 (v_gt rfl rfl)) fun a h => ?_
 refine st1 h rfl rfl rfl (v_move rfl) fun a h => ?_
 refine st_g h rfl rfl (gF rfl) rfl rfl (fun e0 => v_move rfl) fun a h => ?_
 obtain ⟨z8_3, ez8_3, hS⟩ := bv hS
 refine st_g h rfl rfl (gF rfl) rfl rfl (fun e0 => vB ez8_3 (v_lt (eg e0 rfl) rfl)) fun a h => ?_
 obtain ⟨z9_4, ez9_4, hS⟩ := bv hS
 refine st1 h rfl rfl rfl (vB ez9_4 (v_or rfl rfl)) fun a h => ?_
 refine c_nil hK ?_
 have h := h.only [0, 9] (l' := [_, _]) rfl
 refine c_cond h rfl (fun ec5 => ?_) (fun ec5 => ?_)
 ·
  have hS := ifT ec5 hS
  refine c_region fun K hK => ?_
  refine st1 h rfl rfl rfl (v_assign rfl) fun a h => ?_
  refine st1 h rfl rfl rfl (v_assign rfl) fun a h => ?_
  refine c_nil hK ?_
  obtain rfl := so hS
  refine c_ret (hret1 _ _ (out2 h rfl rfl rfl ?_))
  exact ⟨rfl, H.out⟩
 ·
  have hS := ifF ec5 hS
  refine c_skip ?_
  refine hN1 _ _ ?_
  refine c_region fun K hK => ?_
  refine st1 h rfl rfl rfl (v_move rfl) fun a h => ?_
  obtain ⟨z11_6, ez11_6, hS⟩ := bv hS
  refine st1 h rfl rfl rfl (vI ez11_6 (v_mulw rfl rfl)) fun a h => ?_
  refine st1 h rfl rfl rfl (v_assign rfl) fun a h => ?_
  refine st1 h rfl rfl rfl (v_assign rfl) fun a h => ?_
  refine c_nil hK ?_
  have h := h.only [2, 3] (l' := [_, _]) rfl
  obtain rfl := so hS
  refine c_ret (hret0 _ _ (out2 h rfl rfl rfl ?_))
  exact ⟨rfl, H.out⟩

theorem num_Floor_ok {x0 : Int} {res : Int × Bool} {w0 : World} (hS : num_Floor x0 = some res) : Calls Tryz.prog 36 [.int .i64 x0].toArray w0 (Ret fun v w => v = .tuple #[.int .i64 res.1, .bool res.2] ∧ Ext w0 w) := by
 refine enter Tryz.func36 rfl rfl rfl fun Q a h hret0 hnor => ?_
 obtain ⟨Zi, Z, H⟩ : ∃ Zi Z, HZ w0 Zi Z [] w0 := ⟨_, _, HZ.start w0⟩
 have h := h.only [0] (l' := [_]) rfl
 unfold num_Floor at hS
 refine c_region fun K hK => ?_
 refine st1 h rfl rfl rfl (v_assign rfl) fun a h => ?_
 refine st1 h rfl rfl rfl (v_assign rfl) fun a h => ?_
 refine c_nil hK ?_
 refine c_region fun K hK => ?_
 refine st1 h rfl rfl rfl (v_move rfl) fun a h => ?_
 obtain ⟨z6_1, ez6_1, hS⟩ := bv hS
 refine st1 h rfl rfl rfl (vI ez6_1 (v_rem rfl rfl (by decide))) fun a h => ?_
 refine st1 h rfl rfl rfl (v_assign rfl) fun a h => ?_
 refine c_nil hK ?_
 have h := h.only [0, 4] (l' := [_, _]) rfl
 obtain ⟨J3, eJ3, hS⟩ := bv hS
 refine c_seq (fun a w => ∃ (Z : FZ) (s3 : Int), J3 s3 = some res ∧ Fr 16 [(0, .int .i64 x0), (4, .int .i64 s3)] a ∧ HZ w0 Zi Z [] w) ?_ fun Q2 hN2 hO2 => ?_
 ·
  rintro a w ⟨Z, s3, hS, h, H⟩
  subst eJ3
  refine c_region fun K hK => ?_
  refine st1 h rfl rfl rfl (v_move rfl) fun a h => ?_
  refine st1 h rfl rfl rfl (v_move rfl) fun a h => ?_
  obtain ⟨y13_4, hy13_4, hS⟩ := bo hS
  refine st2v (T := Ext) (V := .tuple #[.int .i64 y13_4.1, .bool y13_4.2]) h rfl rfl rfl (d_call [_, _] rfl Tryz.call54 (num_Sub_ok (x0 := x0) (x1 := s3) hy13_4)) fun w X a h => ?_
  have H := H.ext X
  refine st1 h rfl rfl rfl (v_extract rfl rfl) fun a h => ?_
  refine st1 h rfl rfl rfl (v_extract rfl rfl) fun a h => ?_
  refine st1 h rfl rfl rfl (v_assign rfl) fun a h => ?_
  refine st1 h rfl rfl rfl (v_assign rfl) fun a h => ?_
  refine c_nil hK ?_
  have h := h.only [2, 3] (l' := [_, _]) rfl
  obtain rfl := so hS
  refine c_ret (hret0 _ _ (out2 h rfl rfl rfl ?_))
  exact ⟨rfl, H.out⟩
 ·
  have hret2 := hO2.ret hret0
  refine c_region fun K hK => ?_
  refine st1 h rfl rfl rfl (v_move rfl) fun a h => ?_
  obtain ⟨z8_5, ez8_5, hS⟩ := bv hS
  refine st1 h rfl rfl rfl (vB ez8_5 (v_lt rfl rfl)) fun a h => ?_
  refine c_nil hK ?_
  refine c_cond h rfl (fun ec6 => ?_) (fun ec6 => ?_)
  ·
   have hS := ifT ec6 hS
   refine c_lregion ?_
   refine st1 h rfl rfl rfl (v_move rfl) fun a h => ?_
   obtain ⟨z10_7, ez10_7, hS⟩ := bv hS
   refine st1 h rfl rfl rfl (vI ez10_7 (v_addw rfl rfl)) fun a h => ?_
   refine st1 h rfl rfl rfl (v_assign rfl) fun a h => ?_
   refine c_lnil ?_
   exact hN2 _ _ ⟨_, z10_7, hS, (h.only [0, 4] (l' := [_, _]) rfl), H⟩
  ·
   have hS := ifF ec6 hS
   refine c_skip ?_
   exact hN2 _ _ ⟨_, z6_1, hS, (h.only [0, 4] (l' := [_, _]) rfl), H⟩

theorem maths_gcd_ok {x0 : Int} {x1 : Int} {res : Int} {w0 : World} (hS : maths_gcd x0 x1 = some res) : Calls Tryz.prog 41 [.int .i64 x0, .int .i64 x1].toArray w0 (Ret fun v w => v = .int .i64 res ∧ Ext w0 w) := by
 refine enter Tryz.func41 rfl rfl rfl fun Q a h hret0 hnor => ?_
 obtain ⟨Zi, Z, H⟩ : ∃ Zi Z, HZ w0 Zi Z [] w0 := ⟨_, _, HZ.start w0⟩
 have h := h.only [0, 1] (l' := [_, _]) rfl
 unfold maths_gcd at hS
 refine c_region fun K hK => ?_
 refine st1 h rfl rfl rfl (v_assign rfl) fun a h => ?_
 refine c_nil hK ?_
 obtain ⟨J2, eJ2, hS⟩ := bv hS
 refine c_block (fun a w => ∃ (Z : FZ) (s2 : Int), J2 s2 = some res ∧ Fr 12 [(0, .int .i64 s2)] a ∧ HZ w0 Zi Z [] w) ?_ fun Q1 hN1 hx0_1 hO1 => ?_
 ·
  rintro a w ⟨Z, s2, hS, h, H⟩
  subst eJ2
  refine c_region fun K hK => ?_
  refine st1 h rfl rfl rfl (v_move rfl) fun a h => ?_
  refine st1 h rfl rfl rfl (v_assign rfl) fun a h => ?_
  refine c_nil hK ?_
  obtain rfl := so hS
  refine c_ret (hret0 _ _ (out1 h rfl rfl ?_))
  exact ⟨rfl, H.out⟩
 ·
  have hret1 := hO1.ret hret0
  obtain ⟨B3, eB3, hS⟩ := bv hS
  refine c_loopN (fun mu_ a w => ∃ (Z : FZ) (s3 : Int × Int), loopF B3 mu_ s3 = some res ∧ Fr 12 [(0, .int .i64 s3.1), (1, .int .i64 s3.2)] a ∧ HZ w0 Zi Z [] w) KK ⟨_, (x0, x1), hS, (h.only [0, 1] (l' := [_, _]) rfl), H⟩ ?_
  rintro mu_ a w ⟨Z, s3, hS, h, H⟩ Q4 hN4 hO4
  obtain ⟨mu_, rfl, n3, en3, hS⟩ := lpX eB3 hS
  have hret4 := hO4.ret hret1
  have hx0_4 := hO4.exit (i := 0) rfl hx0_1
  refine c_seq _ (fun a w c => c) fun Q5 hN5 hO5 => ?_
  have hret5 := hO5.ret hret4
  have hx0_5 := hO5.exit (i := 0) rfl hx0_4
  refine c_region fun K hK => ?_
  refine st1 h rfl rfl rfl (v_move rfl) fun a h => ?_
  obtain ⟨z6_6, ez6_6, hS⟩ := bv hS
  refine st1 h rfl rfl rfl (vB ez6_6 (v_ne rfl rfl)) fun a h => ?_
  refine c_nil hK ?_
  refine c_cond h rfl (fun ec7 => ?_) (fun ec7 => ?_)
  ·
   have hS := ifT ec7 hS
   refine c_skip ?_
   refine hN5 _ _ ?_
   refine c_lblock fun Q8 hN8 hx1_8 hO8 => ?_
   have hret8 := hO8.ret hret4
   have hx0_8 := hO8.exit (i := 0) rfl hx0_4
   refine c_lflow h (by kernel_rfl) (by kernel_rfl) ?_
   refine f1 [1] rfl rfl rfl rfl (fun w X => v_move rfl) ?_
   refine f1 [0] rfl rfl rfl rfl (fun w X => v_move rfl) ?_
   refine f1 [1] rfl rfl rfl rfl (fun w X => v_move rfl) ?_
   obtain ⟨c9, hS⟩ := ck hS
   obtain ⟨z10_10, ez10_10, hS⟩ := bv hS
   refine f1 [8, 9] rfl rfl rfl rfl (fun w X => vI ez10_10 (v_rem rfl rfl c9)) ?_
   refine f1 [7] rfl rfl rfl rfl (fun w X => v_assign rfl) ?_
   refine f1 [10] rfl rfl rfl rfl (fun w X => v_assign rfl) ?_
   refine fn_ ?_
   intro a w X hR hA
   have h := hR.out [0, 1]
   have h : Fr 12 [(1, _), (0, _)] a := h
   have H := H.ext X
   refine hN8 _ _ ?_
   exact hN4 _ _ _ (Nat.lt_succ_self _) ⟨_, (s3.2, z10_10), lpN en3 hS, (h.only [0, 1] (l' := [_, _]) rfl), H⟩
  ·
   have hS := ifF ec7 hS
   refine c_exit ?_
   exact hx0_5 _ _ ⟨_, s3.1, hS, (h.only [0] (l' := [_]) rfl), H⟩

theorem maths_whole_ok {x0 : List (Int)} {res : (List (Int))} {w0 : World} (hS : maths_whole x0 = some res) {xv0 : Value} (rp0 : RdZ (hz w0) xv0 1 (eI .i64) x0) : Calls Tryz.prog 38 [xv0].toArray w0 (Ret fun v w => RdZ (ZB Z0 w0.heap.size w) v 1 (eI .i64) res ∧ Ext w0 w) := by
 refine enter Tryz.func38 rfl rfl rfl fun Q a h hret0 hnor => ?_
 obtain ⟨Zi, Z, H, rp0⟩ : ∃ Zi Z, HZ w0 Zi Z [] w0 ∧ RdZ Z xv0 1 (eI .i64) x0 := ⟨_, _, HZ.start w0, rp0⟩
 have h := h.only [0] (l' := [_]) rfl
 unfold maths_whole at hS
 refine c_region fun K hK => ?_
 refine st1 h rfl rfl rfl (v_assign rfl) fun a h => ?_
 refine c_nil hK ?_
 refine c_region fun K hK => ?_
 refine st1 h rfl rfl rfl (v_assign rfl) fun a h => ?_
 refine c_nil hK ?_
 have H := H.nilRow 2 1 rfl
 have H : HZ w0 _ _ [_] _ := H
 obtain ⟨J2, eJ2, hS⟩ := bv hS
 refine c_seq (fun a w => ∃ (Z : FZ) (s2 : (List (Int))) (sv3 : Value), J2 s2 = some res ∧ Fr 19 [(3, sv3)] a ∧ HZ w0 Zi Z [.row 2 1 sv3 (s2 : List (Int)).length ((s2 : List (Int)).flatMap (eI .i64))] w) ?_ fun Q1 hN1 hO1 => ?_
 ·
  rintro a w ⟨Z, s2, sv3, hS, h, H⟩
  subst eJ2
  refine c_region fun K hK => ?_
  refine st1 h rfl rfl rfl (v_move rfl) fun a h => ?_
  refine st1 h rfl rfl rfl (v_assign rfl) fun a h => ?_
  refine c_nil hK ?_
  obtain rfl := so hS
  refine c_ret (hret0 _ _ (out1 h rfl rfl ?_))
  exact ⟨(H.backRow (i := 0) rfl), H.out⟩
 ·
  have hret1 := hO1.ret hret0
  refine c_region fun K hK => ?_
  refine st1 h rfl rfl rfl (v_move rfl) fun a h => ?_
  refine st1 h rfl rfl rfl (v_len Tryz.underlying52 rfl (rp0.at H.zin)) fun a h => ?_
  refine st1 h rfl rfl rfl (v_move rfl) fun a h => ?_
  refine c_nil hK ?_
  refine c_lblock fun Q4 hN4 hx0_4 hO4 => ?_
  have hret4 := hO4.ret hret1
  obtain ⟨B5, eB5, hS⟩ := bv hS
  refine c_loopN (fun mu_ a w => ∃ (Z : FZ) (s5 : Int × (List (Int))) (sv7 : Value), loopF B5 mu_ s5 = some res ∧ Fr 19 [(3, sv7), (6, xv0), (7, .int .i64 (x0.length : Int)), (8, .int .i64 s5.1)] a ∧ HZ w0 Zi Z [.row 2 1 sv7 (s5.2 : List (Int)).length ((s5.2 : List (Int)).flatMap (eI .i64))] w ∧ RdZ Z xv0 1 (eI .i64) x0) KK ⟨_, (0, ([] : List (Int))), _, hS, (h.only [3, 6, 7, 8] (l' := [_, _, _, _]) rfl), H, rp0⟩ ?_
  rintro mu_ a w ⟨Z, s5, sv7, hS, h, H, rp0⟩ Q6 hN6 hO6
  obtain ⟨mu_, rfl, n5, en5, hS⟩ := lpX eB5 hS
  have hret6 := hO6.ret hret4
  have hx0_6 := hO6.exit (i := 0) rfl hx0_4
  refine c_region fun K hK => ?_
  obtain ⟨z9_8, ez9_8, hS⟩ := bv hS
  refine st1 h rfl rfl rfl (vB ez9_8 (v_lt rfl rfl)) fun a h => ?_
  refine c_nil hK ?_
  refine c_seq _ (fun a w c => c) fun Q9 hN9 hO9 => ?_
  have hret9 := hO9.ret hret6
  have hx0_9 := hO9.exit (i := 0) rfl hx0_6
  refine c_cond h rfl (fun ec10 => ?_) (fun ec10 => ?_)
  ·
   have hS := ifT ec10 hS
   refine c_skip ?_
   refine hN9 _ _ ?_
   refine c_block _ (fun a w c => c) fun Q11 hN11 hx1_11 hO11 => ?_
   have hret11 := hO11.ret hret6
   have hx0_11 := hO11.exit (i := 0) rfl hx0_6
   refine c_region fun K hK => ?_
   obtain ⟨c12, hS⟩ := ck hS
   obtain ⟨z10_13, ez10_13, hS⟩ := bv hS
   refine st_idx h Tryz.underlying52 Tryz.sizeOf2 rfl rfl (rp0.at H.zin) (fun _ => rfl) z10_13 c12.1 (by rw [ez10_13]; exact gel_some c12) rfl fun a v10 A10 h => ?_
   refine st1 h rfl rfl rfl (v_loadAt1 rfl A10 Tryz.isAgg2 rfl) fun a h => ?_
   refine st1 h rfl rfl rfl (v_assign rfl) fun a h => ?_
   refine c_nil hK ?_
   refine c_lregion ?_
   refine st1 h rfl rfl rfl (v_move rfl) fun a h => ?_
   refine st1 h rfl rfl rfl (v_move rfl) fun a h => ?_
   obtain ⟨z14_14, ez14_14, hS⟩ := bv hS
   refine st1 h rfl rfl rfl (vI ez14_14 (v_quow rfl rfl (by decide))) fun a h => ?_
   refine z_slice (enc := (eI .i64)) ([z14_14] : List (Int)) h H Tryz.underlying52 Tryz.sizeOf2 Tryz.zeroValue2 rfl (zl := [.int .i64 0]) (by kernel_rfl) (plA_get 1 1) [_] [_] rfl rfl rfl rfl rfl fun a v15_15 Z w hsub X H r15_15 h => ?_
   have rp0 := rp0.sub hsub
   have A10 := At.ext A10 X
   obtain ⟨c17, hS⟩ := ck hS
   obtain ⟨z16_18, ez16_18, hS⟩ := bv hS
   refine z_appendS (enc := (eI .i64)) (out := s5.2) (data := [z14_14]) h H 0 rfl Tryz.underlying52 app2 rfl rfl rfl r15_15 (fun _ => rfl) (fun _ _ => rfl) c17 rfl fun a v16_16 w H h => ?_
   rw [← ez16_18] at H
   have H : HZ w0 _ _ [_] _ := H
   refine st1 h rfl rfl rfl (v_assign rfl) fun a h => ?_
   refine c_lnil ?_
   refine hN11 _ _ ?_
   have h := h.only [3, 6, 7, 8] (l' := [_, _, _, _]) rfl
   refine c_lregion ?_
   obtain ⟨z17_19, ez17_19, hS⟩ := bv hS
   refine st1 h rfl rfl rfl (vI ez17_19 (v_addw rfl rfl)) fun a h => ?_
   refine st1 h rfl rfl rfl (v_move rfl) fun a h => ?_
   refine c_lnil ?_
   exact hN6 _ _ _ (Nat.lt_succ_self _) ⟨_, (z17_19, z16_18), _, lpN en5 hS, (h.only [3, 6, 7, 8] (l' := [_, _, _, _]) rfl), H, rp0⟩
  ·
   have hS := ifF ec10 hS
   refine c_exit ?_
   refine hx0_9 _ _ ?_
   exact hN1 _ _ ⟨_, s5.2, _, hS, (h.only [3] (l' := [_]) rfl), H⟩

theorem maths_back_ok {x0 : Int} {res : V} {w0 : World} (hS : maths_back x0 = some res) : Calls Tryz.prog 34 [.int .i64 x0].toArray w0 (Ret fun v w => v = .agg #[.int .i64 res.k, .int .i64 res.n, S res.s] ∧ Ext w0 w) := by
 refine enter Tryz.func34 rfl rfl rfl fun Q a h hret0 hnor => ?_
 obtain ⟨Zi, Z, H⟩ : ∃ Zi Z, HZ w0 Zi Z [] w0 := ⟨_, _, HZ.start w0⟩
 have h := h.only [0] (l' := [_]) rfl
 unfold maths_back at hS
 refine c_region fun K hK => ?_
 refine z_alloc h H Tryz.zeroValue25 [_, _, _] rfl rfl fun a p2_1 w X H h => ?_
 have H : HZ w0 _ _ [_] _ := H
 refine c_nil hK ?_
 refine c_region fun K hK => ?_
 refine st1 h rfl rfl rfl (v_move rfl) fun a h => ?_
 obtain ⟨y4_2, hy4_2, hS⟩ := bo hS
 refine st2v (T := Ext) (V := .tuple #[.int .i64 y4_2.1, .bool y4_2.2]) h rfl rfl rfl (d_call [_] rfl Tryz.call43 (num_Of_ok (x0 := x0) hy4_2)) fun w X a h => ?_
 have H := H.ext X
 refine st1 h rfl rfl rfl (v_extract rfl rfl) fun a h => ?_
 refine st1 h rfl rfl rfl (v_extract rfl rfl) fun a h => ?_
 obtain ⟨y7_3, hy7_3, hS⟩ := bo hS
 refine st2v (T := Ext) (V := .agg #[.int .i64 y7_3.k, .int .i64 y7_3.n, S y7_3.s]) h rfl rfl rfl (d_call [_, _] rfl Tryz.call35 (value_Made_ok (x0 := y4_2.1) (x1 := y4_2.2) hy7_3)) fun w X a h => ?_
 have H := H.ext X
 refine z_store h H 0 rfl rfl rfl Tryz.sizeOf25 [_, _, _] rfl rfl rfl (by simp) [_, _, _] rfl (hl' := [_]) rfl fun w H => ?_
 refine c_nil hK ?_
 have h := h.only [2] (l' := [_]) rfl
 obtain rfl := so hS
 refine c_ret (hret0 _ _ (out1 h rfl ⟨_, rfl, run_loadVar_agg (vs := [_, _, _]) Tryz.isAgg25 Tryz.sizeOf25 (H.hp.get 0 rfl) rfl rfl⟩ ?_))
 exact ⟨rfl, H.out⟩

theorem maths_away_ok {x0 : Int} {x1 : Bool} {res : V} {w0 : World} (hS : maths_away x0 x1 = some res) : Calls Tryz.prog 37 [.int .i64 x0, .bool x1].toArray w0 (Ret fun v w => v = .agg #[.int .i64 res.k, .int .i64 res.n, S res.s] ∧ Ext w0 w) := by
 refine enter Tryz.func37 rfl rfl rfl fun Q a h hret0 hnor => ?_
 obtain ⟨Zi, Z, H⟩ : ∃ Zi Z, HZ w0 Zi Z [] w0 := ⟨_, _, HZ.start w0⟩
 have h := h.only [0, 1] (l' := [_, _]) rfl
 unfold maths_away at hS
 refine c_region fun K hK => ?_
 refine z_alloc h H Tryz.zeroValue25 [_, _, _] rfl rfl fun a p4_1 w X H h => ?_
 have H : HZ w0 _ _ [_] _ := H
 refine c_nil hK ?_
 refine c_region fun K hK => ?_
 refine st1 h rfl rfl rfl (v_move rfl) fun a h => ?_
 obtain ⟨z8_2, ez8_2, hS⟩ := bv hS
 refine st1 h rfl rfl rfl (vI ez8_2 (v_quow rfl rfl (by decide))) fun a h => ?_
 refine st1 h rfl rfl rfl (v_assign rfl) fun a h => ?_
 refine c_nil hK ?_
 refine c_region fun K hK => ?_
 refine st1 h rfl rfl rfl (v_assign rfl) fun a h => ?_
 refine c_nil hK ?_
 obtain ⟨J4, eJ4, hS⟩ := bv hS
 refine c_seq (fun a w => ∃ (Z : FZ) (s4 : Int × Int), J4 s4 = some res ∧ Fr 29 [(0, .int .i64 x0), (1, .bool x1), (4, .pointer (some ⟨p4_1, 0, none⟩)), (5, .int .i64 s4.1), (6, .int .i64 s4.2)] a ∧ HZ w0 Zi Z [.blk p4_1 (Cel [.int .i64 0, .int .i64 0, S []] 25)] w) ?_ fun Q3 hN3 hO3 => ?_
 ·
  rintro a w ⟨Z, s4, hS, h, H⟩
  subst eJ4
  obtain ⟨J6, eJ6, hS⟩ := bv hS
  refine c_seq (fun a w => ∃ (Z : FZ) (s6 : Int), J6 s6 = some res ∧ Fr 29 [(1, .bool x1), (4, .pointer (some ⟨p4_1, 0, none⟩)), (5, .int .i64 s6), (6, .int .i64 s4.2)] a ∧ HZ w0 Zi Z [.blk p4_1 (Cel [.int .i64 0, .int .i64 0, S []] 25)] w) ?_ fun Q5 hN5 hO5 => ?_
  ·
   rintro a w ⟨Z, s6, hS, h, H⟩
   subst eJ6
   obtain ⟨J8, eJ8, hS⟩ := bv hS
   refine c_seq (fun a w => ∃ (Z : FZ) (s8 : Int), J8 s8 = some res ∧ Fr 29 [(4, .pointer (some ⟨p4_1, 0, none⟩)), (5, .int .i64 s8), (6, .int .i64 s4.2)] a ∧ HZ w0 Zi Z [.blk p4_1 (Cel [.int .i64 0, .int .i64 0, S []] 25)] w) ?_ fun Q7 hN7 hO7 => ?_
   ·
    rintro a w ⟨Z, s8, hS, h, H⟩
    subst eJ8
    refine c_region fun K hK => ?_
    refine st1 h rfl rfl rfl (v_move rfl) fun a h => ?_
    refine st1 h rfl rfl rfl (v_move rfl) fun a h => ?_
    obtain ⟨z27_9, ez27_9, hS⟩ := bv hS
    refine st1 h rfl rfl rfl (vI ez27_9 (v_mulw rfl rfl)) fun a h => ?_
    obtain ⟨y28_10, hy28_10, hS⟩ := bo hS
    refine st2v (T := Ext) (V := .agg #[.int .i64 y28_10.k, .int .i64 y28_10.n, S y28_10.s]) h rfl rfl rfl (d_call [_] rfl Tryz.call34 (maths_back_ok (x0 := z27_9) hy28_10)) fun w X a h => ?_
    have H := H.ext X
    refine z_store h H 0 rfl rfl rfl Tryz.sizeOf25 [_, _, _] rfl rfl rfl (by simp) [_, _, _] rfl (hl' := [_]) rfl fun w H => ?_
    refine c_nil hK ?_
    have h := h.only [4] (l' := [_]) rfl
    obtain rfl := so hS
    refine c_ret (hret0 _ _ (out1 h rfl ⟨_, rfl, run_loadVar_agg (vs := [_, _, _]) Tryz.isAgg25 Tryz.sizeOf25 (H.hp.get 0 rfl) rfl rfl⟩ ?_))
    exact ⟨rfl, H.out⟩
   ·
    have hret7 := hO7.ret hret0
    refine c_region fun K hK => ?_
    refine st1 h rfl rfl rfl (v_move rfl) fun a h => ?_
    obtain ⟨z19_11, ez19_11, hS⟩ := bv hS
    refine st1 h rfl rfl rfl (vI ez19_11 (v_rem rfl rfl (by decide))) fun a h => ?_
    obtain ⟨z20_12, ez20_12, hS⟩ := bv hS
    refine st1 h rfl rfl rfl (vB ez20_12 (v_eq rfl rfl)) fun a h => ?_
    refine st1 h rfl rfl rfl (v_move rfl) fun a h => ?_
    obtain ⟨z22_13, ez22_13, hS⟩ := bv hS
    refine st1 h rfl rfl rfl (vB ez22_13 (v_bne Tryz.underlying4 rfl rfl)) fun a h => ?_
    refine c_nil hK ?_
    have h := h.only [4, 5, 6, 22] (l' := [_, _, _, _]) rfl
    refine c_cond h rfl (fun ec14 => ?_) (fun ec14 => ?_)
    ·
     have hS := ifT ec14 hS
     refine c_lregion ?_
     refine st1 h rfl rfl rfl (v_move rfl) fun a h => ?_
     obtain ⟨z24_15, ez24_15, hS⟩ := bv hS
     refine st1 h rfl rfl rfl (vI ez24_15 (v_addw rfl rfl)) fun a h => ?_
     refine st1 h rfl rfl rfl (v_assign rfl) fun a h => ?_
     refine c_lnil ?_
     exact hN7 _ _ ⟨_, z24_15, hS, (h.only [4, 5, 6] (l' := [_, _, _]) rfl), H⟩
    ·
     have hS := ifF ec14 hS
     refine c_skip ?_
     exact hN7 _ _ ⟨_, s6, hS, (h.only [4, 5, 6] (l' := [_, _, _]) rfl), H⟩
  ·
   have hret5 := hO5.ret hret0
   refine c_region fun K hK => ?_
   refine st1 h rfl rfl rfl (v_move rfl) fun a h => ?_
   obtain ⟨z14_16, ez14_16, hS⟩ := bv hS
   refine st1 h rfl rfl rfl (vI ez14_16 (v_rem rfl rfl (by decide))) fun a h => ?_
   obtain ⟨z15_17, ez15_17, hS⟩ := bv hS
   refine st1 h rfl rfl rfl (vB ez15_17 (v_ne rfl rfl)) fun a h => ?_
   refine c_nil hK ?_
   refine c_cond h rfl (fun ec18 => ?_) (fun ec18 => ?_)
   ·
    have hS := ifT ec18 hS
    refine c_lregion ?_
    refine st1 h rfl rfl rfl (v_move rfl) fun a h => ?_
    obtain ⟨z17_19, ez17_19, hS⟩ := bv hS
    refine st1 h rfl rfl rfl (vI ez17_19 (v_addw rfl rfl)) fun a h => ?_
    refine st1 h rfl rfl rfl (v_assign rfl) fun a h => ?_
    refine c_lnil ?_
    exact hN5 _ _ ⟨_, z17_19, hS, (h.only [1, 4, 5, 6] (l' := [_, _, _, _]) rfl), H⟩
   ·
    have hS := ifF ec18 hS
    refine c_skip ?_
    exact hN5 _ _ ⟨_, s4.1, hS, (h.only [1, 4, 5, 6] (l' := [_, _, _, _]) rfl), H⟩
 ·
  have hret3 := hO3.ret hret0
  refine c_region fun K hK => ?_
  refine st1 h rfl rfl rfl (v_move rfl) fun a h => ?_
  obtain ⟨z10_20, ez10_20, hS⟩ := bv hS
  refine st1 h rfl rfl rfl (vB ez10_20 (v_lt rfl rfl)) fun a h => ?_
  refine c_nil hK ?_
  refine c_cond h rfl (fun ec21 => ?_) (fun ec21 => ?_)
  ·
   have hS := ifT ec21 hS
   refine c_lregion ?_
   refine st1 h rfl rfl rfl (v_move rfl) fun a h => ?_
   obtain ⟨z12_22, ez12_22, hS⟩ := bv hS
   refine st1 h rfl rfl rfl (vI ez12_22 (v_negw rfl)) fun a h => ?_
   refine st1 h rfl rfl rfl (v_assign rfl) fun a h => ?_
   refine st1 h rfl rfl rfl (v_assign rfl) fun a h => ?_
   refine c_lnil ?_
   exact hN3 _ _ ⟨_, (z12_22, (-1)), hS, (h.only [0, 1, 4, 5, 6] (l' := [_, _, _, _, _]) rfl), H⟩
  ·
   have hS := ifF ec21 hS
   refine c_skip ?_
   exact hN3 _ _ ⟨_, (z8_2, 1), hS, (h.only [0, 1, 4, 5, 6] (l' := [_, _, _, _, _]) rfl), H⟩

theorem maths_round_ok {x0 : Int} {x1 : Int} {res : V} {w0 : World} (hS : maths_round x0 x1 = some res) : Calls Tryz.prog 39 [.int .i64 x0, .int .i64 x1].toArray w0 (Ret fun v w => v = .agg #[.int .i64 res.k, .int .i64 res.n, S res.s] ∧ Ext w0 w) := by
 refine enter Tryz.func39 rfl rfl rfl fun Q a h hret0 hnor => ?_
 obtain ⟨Zi, Z, H⟩ : ∃ Zi Z, HZ w0 Zi Z [] w0 := ⟨_, _, HZ.start w0⟩
 have h := h.only [0, 1] (l' := [_, _]) rfl
 unfold maths_round at hS
 refine c_region fun K hK => ?_
 refine z_alloc h H Tryz.zeroValue25 [_, _, _] rfl rfl fun a p4_1 w X H h => ?_
 have H : HZ w0 _ _ [_] _ := H
 refine c_nil hK ?_
 refine c_region fun K hK => ?_
 refine st1 h rfl rfl rfl (v_assign rfl) fun a h => ?_
 refine c_nil hK ?_
 obtain ⟨J3, eJ3, hS⟩ := bv hS
 refine c_seq (fun a w => ∃ (Z : FZ) (s3 : Int), J3 s3 = some res ∧ Fr 51 [(0, .int .i64 x0), (4, .pointer (some ⟨p4_1, 0, none⟩)), (5, .int .i64 s3)] a ∧ HZ w0 Zi Z [.blk p4_1 (Cel [.int .i64 0, .int .i64 0, S []] 25)] w) ?_ fun Q2 hN2 hO2 => ?_
 ·
  rintro a w ⟨Z, s3, hS, h, H⟩
  subst eJ3
  refine c_flow h (by kernel_rfl) (by kernel_rfl) ?_
  refine f1 [0] rfl rfl rfl rfl (fun w X => v_move rfl) ?_
  refine f1 [5] rfl rfl rfl rfl (fun w X => v_move rfl) ?_
  obtain ⟨c4, hS⟩ := ck hS
  obtain ⟨z17_5, ez17_5, hS⟩ := bv hS
  refine f1 [15, 16] rfl rfl rfl rfl (fun w X => vI ez17_5 (v_quow rfl rfl c4)) ?_
  refine f1 [0] rfl rfl rfl rfl (fun w X => v_move rfl) ?_
  refine f1 [5] rfl rfl rfl rfl (fun w X => v_move rfl) ?_
  obtain ⟨c6, hS⟩ := ck hS
  obtain ⟨z20_7, ez20_7, hS⟩ := bv hS
  refine f1 [18, 19] rfl rfl rfl rfl (fun w X => vI ez20_7 (v_rem rfl rfl c6)) ?_
  refine f1 [17] rfl rfl rfl rfl (fun w X => v_assign rfl) ?_
  refine f1 [20] rfl rfl rfl rfl (fun w X => v_assign rfl) ?_
  refine fn_ ?_
  intro a w X hR hA
  have h := hR.out [0, 4, 5, 6, 7]
  have h : Fr 51 [(7, _), (6, _), (5, _), (4, _), (0, _)] a := h
  have H := H.ext X
  obtain ⟨J9, eJ9, hS⟩ := bv hS
  refine c_seq (fun a w => ∃ (Z : FZ) (s9 : Int), J9 s9 = some res ∧ Fr 51 [(0, .int .i64 x0), (4, .pointer (some ⟨p4_1, 0, none⟩)), (5, .int .i64 s3), (6, .int .i64 z17_5), (7, .int .i64 s9)] a ∧ HZ w0 Zi Z [.blk p4_1 (Cel [.int .i64 0, .int .i64 0, S []] 25)] w) ?_ fun Q8 hN8 hO8 => ?_
  ·
   rintro a w ⟨Z, s9, hS, h, H⟩
   subst eJ9
   obtain ⟨J11, eJ11, hS⟩ := bv hS
   refine c_seq (fun a w => ∃ (Z : FZ) (s11 : Int), J11 s11 = some res ∧ Fr 51 [(4, .pointer (some ⟨p4_1, 0, none⟩)), (5, .int .i64 s3), (6, .int .i64 s11)] a ∧ HZ w0 Zi Z [.blk p4_1 (Cel [.int .i64 0, .int .i64 0, S []] 25)] w) ?_ fun Q10 hN10 hO10 => ?_
   ·
    rintro a w ⟨Z, s11, hS, h, H⟩
    subst eJ11
    refine c_seq _ (fun a w c => c) fun Q12 hN12 hO12 => ?_
    have hret12 := hO12.ret hret0
    refine c_region fun K hK => ?_
    refine st1 h rfl rfl rfl (v_move rfl) fun a h => ?_
    refine st1 h rfl rfl rfl (v_move rfl) fun a h => ?_
    obtain ⟨c13, hS⟩ := ck hS
    obtain ⟨z38_14, ez38_14, hS⟩ := bv hS
    refine st1 h rfl rfl rfl (vI ez38_14 (v_quow rfl rfl c13)) fun a h => ?_
    obtain ⟨z39_15, ez39_15, hS⟩ := bv hS
    refine st1 h rfl rfl rfl (vB ez39_15 (v_gt rfl rfl)) fun a h => ?_
    refine st1 h rfl rfl rfl (v_move rfl) fun a h => ?_
    refine st_g h rfl rfl (gF rfl) rfl rfl (fun e0 => v_move rfl) fun a h => ?_
    refine st_g h rfl rfl (gF rfl) rfl rfl (fun e0 => v_move rfl) fun a h => ?_
    obtain ⟨c16, hS⟩ := ck hS
    obtain ⟨z43_17, ez43_17, hS⟩ := bv hS
    refine st_g h rfl rfl (gF rfl) rfl rfl (fun e0 => vI ez43_17 (v_quow rfl (eg e0 rfl) (c16 e0))) fun a h => ?_
    obtain ⟨z44_18, ez44_18, hS⟩ := bv hS
    refine st_g h rfl rfl (gF rfl) rfl rfl (fun e0 => vB ez44_18 (v_lt (eg e0 rfl) (eg e0 rfl))) fun a h => ?_
    obtain ⟨z45_19, ez45_19, hS⟩ := bv hS
    refine st1 h rfl rfl rfl (vB ez45_19 (v_or rfl rfl)) fun a h => ?_
    refine c_nil hK ?_
    have h := h.only [4, 5, 6, 45] (l' := [_, _, _, _]) rfl
    refine c_cond h rfl (fun ec20 => ?_) (fun ec20 => ?_)
    ·
     have hS := ifT ec20 hS
     refine c_region fun K hK => ?_
     obtain ⟨y46_21, hy46_21, hS⟩ := bo hS
     refine st2v (T := Ext) (V := .agg #[.int .i64 y46_21.k, .int .i64 y46_21.n, S y46_21.s]) h rfl rfl rfl (d_call [_] rfl Tryz.call13 (value_Fail_ok (x0 := (5 : Int)) hy46_21)) fun w X a h => ?_
     have H := H.ext X
     refine z_store h H 0 rfl rfl rfl Tryz.sizeOf25 [_, _, _] rfl rfl rfl (by simp) [_, _, _] rfl (hl' := [_]) rfl fun w H => ?_
     refine c_nil hK ?_
     have h := h.only [4] (l' := [_]) rfl
     obtain rfl := so hS
     refine c_ret (hret12 _ _ (out1 h rfl ⟨_, rfl, run_loadVar_agg (vs := [_, _, _]) Tryz.isAgg25 Tryz.sizeOf25 (H.hp.get 0 rfl) rfl rfl⟩ ?_))
     exact ⟨rfl, H.out⟩
    ·
     have hS := ifF ec20 hS
     refine c_skip ?_
     refine hN12 _ _ ?_
     refine c_region fun K hK => ?_
     refine st1 h rfl rfl rfl (v_move rfl) fun a h => ?_
     refine st1 h rfl rfl rfl (v_move rfl) fun a h => ?_
     obtain ⟨z49_22, ez49_22, hS⟩ := bv hS
     refine st1 h rfl rfl rfl (vI ez49_22 (v_mulw rfl rfl)) fun a h => ?_
     obtain ⟨y50_23, hy50_23, hS⟩ := bo hS
     refine st2v (T := Ext) (V := .agg #[.int .i64 y50_23.k, .int .i64 y50_23.n, S y50_23.s]) h rfl rfl rfl (d_call [_] rfl Tryz.call22 (value_Num_ok (x0 := z49_22) hy50_23)) fun w X a h => ?_
     have H := H.ext X
     refine z_store h H 0 rfl rfl rfl Tryz.sizeOf25 [_, _, _] rfl rfl rfl (by simp) [_, _, _] rfl (hl' := [_]) rfl fun w H => ?_
     refine c_nil hK ?_
     have h := h.only [4] (l' := [_]) rfl
     obtain rfl := so hS
     refine c_ret (hret0 _ _ (out1 h rfl ⟨_, rfl, run_loadVar_agg (vs := [_, _, _]) Tryz.isAgg25 Tryz.sizeOf25 (H.hp.get 0 rfl) rfl rfl⟩ ?_))
     exact ⟨rfl, H.out⟩
   ·
    have hret10 := hO10.ret hret0
    refine c_region fun K hK => ?_
    refine st1 h rfl rfl rfl (v_move rfl) fun a h => ?_
    refine st1 h rfl rfl rfl (v_move rfl) fun a h => ?_
    refine st1 h rfl rfl rfl (v_move rfl) fun a h => ?_
    obtain ⟨z28_24, ez28_24, hS⟩ := bv hS
    refine st1 h rfl rfl rfl (vI ez28_24 (v_subw rfl rfl)) fun a h => ?_
    obtain ⟨z29_25, ez29_25, hS⟩ := bv hS
    refine st1 h rfl rfl rfl (vB ez29_25 (v_ge rfl rfl)) fun a h => ?_
    refine c_nil hK ?_
    have h := h.only [0, 4, 5, 6, 29] (l' := [_, _, _, _, _]) rfl
    refine c_cond h rfl (fun ec26 => ?_) (fun ec26 => ?_)
    ·
     have hS := ifT ec26 hS
     refine c_region fun K hK => ?_
     refine st1 h rfl rfl rfl (v_move rfl) fun a h => ?_
     obtain ⟨z31_27, ez31_27, hS⟩ := bv hS
     refine st1 h rfl rfl rfl (vB ez31_27 (v_lt rfl rfl)) fun a h => ?_
     refine c_nil hK ?_
     refine c_cond h rfl (fun ec28 => ?_) (fun ec28 => ?_)
     ·
      have hS := ifT ec28 hS
      refine c_lregion ?_
      refine st1 h rfl rfl rfl (v_move rfl) fun a h => ?_
      obtain ⟨z33_29, ez33_29, hS⟩ := bv hS
      refine st1 h rfl rfl rfl (vI ez33_29 (v_subw rfl rfl)) fun a h => ?_
      refine st1 h rfl rfl rfl (v_assign rfl) fun a h => ?_
      refine c_lnil ?_
      exact hN10 _ _ ⟨_, z33_29, hS, (h.only [4, 5, 6] (l' := [_, _, _]) rfl), H⟩
     ·
      have hS := ifF ec28 hS
      refine c_lregion ?_
      refine st1 h rfl rfl rfl (v_move rfl) fun a h => ?_
      obtain ⟨z35_30, ez35_30, hS⟩ := bv hS
      refine st1 h rfl rfl rfl (vI ez35_30 (v_addw rfl rfl)) fun a h => ?_
      refine st1 h rfl rfl rfl (v_assign rfl) fun a h => ?_
      refine c_lnil ?_
      exact hN10 _ _ ⟨_, z35_30, hS, (h.only [4, 5, 6] (l' := [_, _, _]) rfl), H⟩
    ·
     have hS := ifF ec26 hS
     refine c_skip ?_
     exact hN10 _ _ ⟨_, z17_5, hS, (h.only [4, 5, 6] (l' := [_, _, _]) rfl), H⟩
  ·
   have hret8 := hO8.ret hret0
   refine c_region fun K hK => ?_
   refine st1 h rfl rfl rfl (v_move rfl) fun a h => ?_
   obtain ⟨z22_31, ez22_31, hS⟩ := bv hS
   refine st1 h rfl rfl rfl (vB ez22_31 (v_lt rfl rfl)) fun a h => ?_
   refine c_nil hK ?_
   refine c_cond h rfl (fun ec32 => ?_) (fun ec32 => ?_)
   ·
    have hS := ifT ec32 hS
    refine c_lregion ?_
    refine st1 h rfl rfl rfl (v_move rfl) fun a h => ?_
    obtain ⟨z24_33, ez24_33, hS⟩ := bv hS
    refine st1 h rfl rfl rfl (vI ez24_33 (v_negw rfl)) fun a h => ?_
    refine st1 h rfl rfl rfl (v_assign rfl) fun a h => ?_
    refine c_lnil ?_
    exact hN8 _ _ ⟨_, z24_33, hS, (h.only [0, 4, 5, 6, 7] (l' := [_, _, _, _, _]) rfl), H⟩
   ·
    have hS := ifF ec32 hS
    refine c_skip ?_
    exact hN8 _ _ ⟨_, z20_7, hS, (h.only [0, 4, 5, 6, 7] (l' := [_, _, _, _, _]) rfl), H⟩
 ·
  have hret2 := hO2.ret hret0
  refine c_region fun K hK => ?_
  refine st1 h rfl rfl rfl (v_move rfl) fun a h => ?_
  obtain ⟨z9_34, ez9_34, hS⟩ := bv hS
  refine st1 h rfl rfl rfl (vI ez9_34 (v_subw rfl rfl)) fun a h => ?_
  refine st1 h rfl rfl rfl (v_move rfl) fun a h => ?_
  refine c_nil hK ?_
  refine c_lblock fun Q35 hN35 hx0_35 hO35 => ?_
  have hret35 := hO35.ret hret2
  obtain ⟨B36, eB36, hS⟩ := bv hS
  refine c_loopN (fun mu_ a w => ∃ (Z : FZ) (s36 : Int × Int), loopF B36 mu_ s36 = some res ∧ Fr 51 [(0, .int .i64 x0), (4, .pointer (some ⟨p4_1, 0, none⟩)), (5, .int .i64 s36.1), (9, .int .i64 z9_34), (10, .int .i64 s36.2)] a ∧ HZ w0 Zi Z [.blk p4_1 (Cel [.int .i64 0, .int .i64 0, S []] 25)] w) KK ⟨_, (1, 0), hS, (h.only [0, 4, 5, 9, 10] (l' := [_, _, _, _, _]) rfl), H⟩ ?_
  rintro mu_ a w ⟨Z, s36, hS, h, H⟩ Q37 hN37 hO37
  obtain ⟨mu_, rfl, n36, en36, hS⟩ := lpX eB36 hS
  have hret37 := hO37.ret hret35
  have hx0_37 := hO37.exit (i := 0) rfl hx0_35
  refine c_region fun K hK => ?_
  obtain ⟨z11_38, ez11_38, hS⟩ := bv hS
  refine st1 h rfl rfl rfl (vB ez11_38 (v_lt rfl rfl)) fun a h => ?_
  refine c_nil hK ?_
  refine c_seq _ (fun a w c => c) fun Q39 hN39 hO39 => ?_
  have hret39 := hO39.ret hret37
  have hx0_39 := hO39.exit (i := 0) rfl hx0_37
  refine c_cond h rfl (fun ec40 => ?_) (fun ec40 => ?_)
  ·
   have hS := ifT ec40 hS
   refine c_skip ?_
   refine hN39 _ _ ?_
   refine c_block _ (fun a w c => c) fun Q41 hN41 hx1_41 hO41 => ?_
   have hret41 := hO41.ret hret37
   have hx0_41 := hO41.exit (i := 0) rfl hx0_37
   refine c_lregion ?_
   refine st1 h rfl rfl rfl (v_move rfl) fun a h => ?_
   obtain ⟨z13_42, ez13_42, hS⟩ := bv hS
   refine st1 h rfl rfl rfl (vI ez13_42 (v_mulw rfl rfl)) fun a h => ?_
   refine st1 h rfl rfl rfl (v_assign rfl) fun a h => ?_
   refine c_lnil ?_
   refine hN41 _ _ ?_
   refine c_lregion ?_
   obtain ⟨z14_43, ez14_43, hS⟩ := bv hS
   refine st1 h rfl rfl rfl (vI ez14_43 (v_addw rfl rfl)) fun a h => ?_
   refine st1 h rfl rfl rfl (v_move rfl) fun a h => ?_
   refine c_lnil ?_
   exact hN37 _ _ _ (Nat.lt_succ_self _) ⟨_, (z13_42, z14_43), lpN en36 hS, (h.only [0, 4, 5, 9, 10] (l' := [_, _, _, _, _]) rfl), H⟩
  ·
   have hS := ifF ec40 hS
   refine c_exit ?_
   refine hx0_39 _ _ ?_
   exact hN2 _ _ ⟨_, s36.1, hS, (h.only [0, 4, 5] (l' := [_, _, _]) rfl), H⟩

theorem lists_numbers_ok {x0 : List (V)} {res : (List (Int))} {w0 : World} (hS : lists_numbers x0 = some res) {xv0 : Value} (rp0 : RdZ (hz w0) xv0 3 vL x0) : Calls Tryz.prog 92 [xv0].toArray w0 (Ret fun v w => RdZ (ZB Z0 w0.heap.size w) v 1 (eI .i64) res ∧ Ext w0 w) := by
 refine enter Tryz.func92 rfl rfl rfl fun Q a h hret0 hnor => ?_
 obtain ⟨Zi, Z, H, rp0⟩ : ∃ Zi Z, HZ w0 Zi Z [] w0 ∧ RdZ Z xv0 3 vL x0 := ⟨_, _, HZ.start w0, rp0⟩
 have h := h.only [0] (l' := [_]) rfl
 unfold lists_numbers at hS
 refine c_region fun K hK => ?_
 refine st1 h rfl rfl rfl (v_assign rfl) fun a h => ?_
 refine c_nil hK ?_
 refine c_region fun K hK => ?_
 refine st1 h rfl rfl rfl (v_assign rfl) fun a h => ?_
 refine c_nil hK ?_
 have H := H.nilRow 2 1 rfl
 have H : HZ w0 _ _ [_] _ := H
 obtain ⟨J2, eJ2, hS⟩ := bv hS
 refine c_seq (fun a w => ∃ (Z : FZ) (s2 : (List (Int))) (sv3 : Value), J2 s2 = some res ∧ Fr 22 [(3, sv3)] a ∧ HZ w0 Zi Z [.row 2 1 sv3 (s2 : List (Int)).length ((s2 : List (Int)).flatMap (eI .i64))] w) ?_ fun Q1 hN1 hO1 => ?_
 ·
  rintro a w ⟨Z, s2, sv3, hS, h, H⟩
  subst eJ2
  refine c_region fun K hK => ?_
  refine st1 h rfl rfl rfl (v_move rfl) fun a h => ?_
  refine st1 h rfl rfl rfl (v_assign rfl) fun a h => ?_
  refine c_nil hK ?_
  obtain rfl := so hS
  refine c_ret (hret0 _ _ (out1 h rfl rfl ?_))
  exact ⟨(H.backRow (i := 0) rfl), H.out⟩
 ·
  have hret1 := hO1.ret hret0
  refine c_region fun K hK => ?_
  refine st1 h rfl rfl rfl (v_move rfl) fun a h => ?_
  refine st1 h rfl rfl rfl (v_len Tryz.underlying22 rfl (rp0.at H.zin)) fun a h => ?_
  refine st1 h rfl rfl rfl (v_move rfl) fun a h => ?_
  refine c_nil hK ?_
  refine c_lblock fun Q4 hN4 hx0_4 hO4 => ?_
  have hret4 := hO4.ret hret1
  obtain ⟨B5, eB5, hS⟩ := bv hS
  refine c_loopN (fun mu_ a w => ∃ (Z : FZ) (s5 : Int × (List (Int))) (sv7 : Value), loopF B5 mu_ s5 = some res ∧ Fr 22 [(3, sv7), (6, xv0), (7, .int .i64 (x0.length : Int)), (8, .int .i64 s5.1)] a ∧ HZ w0 Zi Z [.row 2 1 sv7 (s5.2 : List (Int)).length ((s5.2 : List (Int)).flatMap (eI .i64))] w ∧ RdZ Z xv0 3 vL x0) KK ⟨_, (0, ([] : List (Int))), _, hS, (h.only [3, 6, 7, 8] (l' := [_, _, _, _]) rfl), H, rp0⟩ ?_
  rintro mu_ a w ⟨Z, s5, sv7, hS, h, H, rp0⟩ Q6 hN6 hO6
  obtain ⟨mu_, rfl, n5, en5, hS⟩ := lpX eB5 hS
  have hret6 := hO6.ret hret4
  have hx0_6 := hO6.exit (i := 0) rfl hx0_4
  refine c_region fun K hK => ?_
  obtain ⟨z9_8, ez9_8, hS⟩ := bv hS
  refine st1 h rfl rfl rfl (vB ez9_8 (v_lt rfl rfl)) fun a h => ?_
  refine c_nil hK ?_
  refine c_seq _ (fun a w c => c) fun Q9 hN9 hO9 => ?_
  have hret9 := hO9.ret hret6
  have hx0_9 := hO9.exit (i := 0) rfl hx0_6
  refine c_cond h rfl (fun ec10 => ?_) (fun ec10 => ?_)
  ·
   have hS := ifT ec10 hS
   refine c_skip ?_
   refine hN9 _ _ ?_
   refine c_block _ (fun a w c => c) fun Q11 hN11 hx1_11 hO11 => ?_
   have hret11 := hO11.ret hret6
   have hx0_11 := hO11.exit (i := 0) rfl hx0_6
   refine c_region fun K hK => ?_
   obtain ⟨c12, hS⟩ := ck hS
   obtain ⟨z10_13, ez10_13, hS⟩ := bv hS
   refine st_idx h Tryz.underlying22 Tryz.sizeOf25 rfl rfl (rp0.at H.zin) (fun _ => rfl) z10_13 c12.1 (by rw [ez10_13]; exact gel_some c12) rfl fun a v10 A10 h => ?_
   refine st1 h rfl rfl rfl (v_loadAtA [_, _, _] rfl A10 Tryz.isAgg25 Tryz.sizeOf25 rfl rfl) fun a h => ?_
   refine z_alloc h H Tryz.zeroValue25 [_, _, _] rfl rfl fun a p5_14 w X H h => ?_
   have A10 := At.ext A10 X
   have H : HZ w0 _ _ [_, _] _ := H
   refine z_store h H 1 rfl rfl rfl Tryz.sizeOf25 [_, _, _] rfl rfl rfl (by simp) [_, _, _] rfl (hl' := [_, _]) rfl fun w H => ?_
   refine c_nil hK ?_
   refine c_region fun K hK => ?_
   refine st1 h rfl rfl rfl (v_fieldAddr rfl Tryz.underlying25 rfl Tryz.sizeOf3 rfl rfl) fun a h => ?_
   refine st1 h rfl rfl rfl (v_load1 rfl Tryz.isAgg3 (H.hp.get 1 rfl) rfl) fun a h => ?_
   obtain ⟨z14_15, ez14_15, hS⟩ := bv hS
   refine st1 h rfl rfl rfl (vB ez14_15 (v_eq rfl rfl)) fun a h => ?_
   refine c_nil hK ?_
   have h := h.only [3, 5, 6, 7, 8, 14] (l' := [_, _, _, _, _, _]) rfl
   refine c_cond h rfl (fun ec16 => ?_) (fun ec16 => ?_)
   ·
    have hS := ifT ec16 hS
    refine c_lregion ?_
    refine st1 h rfl rfl rfl (v_move rfl) fun a h => ?_
    refine st1 h rfl rfl rfl (v_fieldAddr rfl Tryz.underlying25 rfl Tryz.sizeOf2 rfl rfl) fun a h => ?_
    refine st1 h rfl rfl rfl (v_load1 rfl Tryz.isAgg2 (H.hp.get 1 rfl) rfl) fun a h => ?_
    refine z_slice (enc := (eI .i64)) ([z10_13.n] : List (Int)) h H Tryz.underlying52 Tryz.sizeOf2 Tryz.zeroValue2 rfl (zl := [.int .i64 0]) (by kernel_rfl) (plA_get 1 1) [_] [_] rfl rfl rfl rfl rfl fun a v18_17 Z w hsub X H r18_17 h => ?_
    have rp0 := rp0.sub hsub
    obtain ⟨c19, hS⟩ := ck hS
    obtain ⟨z19_20, ez19_20, hS⟩ := bv hS
    refine z_appendS (enc := (eI .i64)) (out := s5.2) (data := [z10_13.n]) h H 0 rfl Tryz.underlying52 app2 rfl rfl rfl r18_17 (fun _ => rfl) (fun _ _ => rfl) c19 rfl fun a v19_18 w H h => ?_
    rw [← ez19_20] at H
    have H : HZ w0 _ _ [_, _] _ := H
    refine st1 h rfl rfl rfl (v_assign rfl) fun a h => ?_
    refine c_lnil ?_
    refine hN11 _ _ ?_
    have h := h.only [3, 6, 7, 8] (l' := [_, _, _, _]) rfl
    refine c_lregion ?_
    obtain ⟨z20_21, ez20_21, hS⟩ := bv hS
    refine st1 h rfl rfl rfl (vI ez20_21 (v_addw rfl rfl)) fun a h => ?_
    refine st1 h rfl rfl rfl (v_move rfl) fun a h => ?_
    refine c_lnil ?_
    exact hN6 _ _ _ (Nat.lt_succ_self _) ⟨_, (z20_21, z19_20), _, lpN en5 hS, (h.only [3, 6, 7, 8] (l' := [_, _, _, _]) rfl), (H.keepN 1 rfl), rp0⟩
   ·
    have hS := ifF ec16 hS
    refine c_skip ?_
    refine hN11 _ _ ?_
    refine c_lregion ?_
    obtain ⟨z20_22, ez20_22, hS⟩ := bv hS
    refine st1 h rfl rfl rfl (vI ez20_22 (v_addw rfl rfl)) fun a h => ?_
    refine st1 h rfl rfl rfl (v_move rfl) fun a h => ?_
    refine c_lnil ?_
    exact hN6 _ _ _ (Nat.lt_succ_self _) ⟨_, (z20_22, s5.2), _, lpN en5 hS, (h.only [3, 6, 7, 8] (l' := [_, _, _, _]) rfl), (H.keepN 1 rfl), rp0⟩
  ·
   have hS := ifF ec10 hS
   refine c_exit ?_
   refine hx0_9 _ _ ?_
   exact hN1 _ _ ⟨_, s5.2, _, hS, (h.only [3] (l' := [_]) rfl), H⟩

theorem lists_Sum_ok {x0 : List (V)} {res : V} {w0 : World} (hS : lists_Sum x0 = some res) {xv0 : Value} (rp0 : RdZ (hz w0) xv0 3 vL x0) : Calls Tryz.prog 62 [xv0].toArray w0 (Ret fun v w => v = .agg #[.int .i64 res.k, .int .i64 res.n, S res.s] ∧ Ext w0 w) := by
 refine enter Tryz.func62 rfl rfl rfl fun Q a h hret0 hnor => ?_
 obtain ⟨Zi, Z, H, rp0⟩ : ∃ Zi Z, HZ w0 Zi Z [] w0 ∧ RdZ Z xv0 3 vL x0 := ⟨_, _, HZ.start w0, rp0⟩
 have h := h.only [0] (l' := [_]) rfl
 unfold lists_Sum at hS
 refine c_region fun K hK => ?_
 refine z_alloc h H Tryz.zeroValue25 [_, _, _] rfl rfl fun a p2_1 w X H h => ?_
 have H : HZ w0 _ _ [_] _ := H
 refine c_nil hK ?_
 refine c_region fun K hK => ?_
 refine st1 h rfl rfl rfl (v_assign rfl) fun a h => ?_
 refine st1 h rfl rfl rfl (v_assign rfl) fun a h => ?_
 refine c_nil hK ?_
 obtain ⟨J3, eJ3, hS⟩ := bv hS
 refine c_seq (fun a w => ∃ (Z : FZ) (s3 : Int × Bool), J3 s3 = some res ∧ Fr 25 [(2, .pointer (some ⟨p2_1, 0, none⟩)), (3, .int .i64 s3.1), (4, .bool s3.2)] a ∧ HZ w0 Zi Z [.blk p2_1 (Cel [.int .i64 0, .int .i64 0, S []] 25)] w) ?_ fun Q2 hN2 hO2 => ?_
 ·
  rintro a w ⟨Z, s3, hS, h, H⟩
  subst eJ3
  refine c_region fun K hK => ?_
  refine st1 h rfl rfl rfl (v_move rfl) fun a h => ?_
  refine st1 h rfl rfl rfl (v_move rfl) fun a h => ?_
  obtain ⟨y24_4, hy24_4, hS⟩ := bo hS
  refine st2v (T := Ext) (V := .agg #[.int .i64 y24_4.k, .int .i64 y24_4.n, S y24_4.s]) h rfl rfl rfl (d_call [_, _] rfl Tryz.call35 (value_Made_ok (x0 := s3.1) (x1 := s3.2) hy24_4)) fun w X a h => ?_
  have H := H.ext X
  refine z_store h H 0 rfl rfl rfl Tryz.sizeOf25 [_, _, _] rfl rfl rfl (by simp) [_, _, _] rfl (hl' := [_]) rfl fun w H => ?_
  refine c_nil hK ?_
  have h := h.only [2] (l' := [_]) rfl
  obtain rfl := so hS
  refine c_ret (hret0 _ _ (out1 h rfl ⟨_, rfl, run_loadVar_agg (vs := [_, _, _]) Tryz.isAgg25 Tryz.sizeOf25 (H.hp.get 0 rfl) rfl rfl⟩ ?_))
  exact ⟨rfl, H.out⟩
 ·
  have hret2 := hO2.ret hret0
  refine c_region fun K hK => ?_
  refine st1 h rfl rfl rfl (v_move rfl) fun a h => ?_
  obtain ⟨y8_5, hy8_5, hS⟩ := bo hS
  refine z_callR (data := y8_5) h H rfl rfl rfl (d_call [_] rfl Tryz.call92 (lists_numbers_ok (x0 := x0) hy8_5 (rp0.hz H.zin))) fun v8_6 Z w hsub X H r8_6 a h => ?_
  have rp0 := rp0.sub hsub
  refine st1 h rfl rfl rfl (v_len Tryz.underlying52 rfl (r8_6.at H.zin)) fun a h => ?_
  refine st1 h rfl rfl rfl (v_move rfl) fun a h => ?_
  refine c_nil hK ?_
  refine c_lblock fun Q7 hN7 hx0_7 hO7 => ?_
  have hret7 := hO7.ret hret2
  obtain ⟨B8, eB8, hS⟩ := bv hS
  refine c_loopN (fun mu_ a w => ∃ (Z : FZ) (s8 : Int × Bool × Int), loopF B8 mu_ s8 = some res ∧ Fr 25 [(2, .pointer (some ⟨p2_1, 0, none⟩)), (3, .int .i64 s8.1), (4, .bool s8.2.1), (8, v8_6), (9, .int .i64 (y8_5.length : Int)), (10, .int .i64 s8.2.2)] a ∧ HZ w0 Zi Z [.blk p2_1 (Cel [.int .i64 0, .int .i64 0, S []] 25)] w ∧ RdZ Z v8_6 1 (eI .i64) y8_5) KK ⟨_, (0, true, 0), hS, (h.only [2, 3, 4, 8, 9, 10] (l' := [_, _, _, _, _, _]) rfl), H, r8_6⟩ ?_
  rintro mu_ a w ⟨Z, s8, hS, h, H, r8_6⟩ Q9 hN9 hO9
  obtain ⟨mu_, rfl, n8, en8, hS⟩ := lpX eB8 hS
  have hret9 := hO9.ret hret7
  have hx0_9 := hO9.exit (i := 0) rfl hx0_7
  refine c_region fun K hK => ?_
  obtain ⟨z11_10, ez11_10, hS⟩ := bv hS
  refine st1 h rfl rfl rfl (vB ez11_10 (v_lt rfl rfl)) fun a h => ?_
  refine c_nil hK ?_
  refine c_seq _ (fun a w c => c) fun Q11 hN11 hO11 => ?_
  have hret11 := hO11.ret hret9
  have hx0_11 := hO11.exit (i := 0) rfl hx0_9
  refine c_cond h rfl (fun ec12 => ?_) (fun ec12 => ?_)
  ·
   have hS := ifT ec12 hS
   refine c_skip ?_
   refine hN11 _ _ ?_
   refine c_block _ (fun a w c => c) fun Q13 hN13 hx1_13 hO13 => ?_
   have hret13 := hO13.ret hret9
   have hx0_13 := hO13.exit (i := 0) rfl hx0_9
   refine c_region fun K hK => ?_
   obtain ⟨c14, hS⟩ := ck hS
   obtain ⟨z12_15, ez12_15, hS⟩ := bv hS
   refine st_idx h Tryz.underlying52 Tryz.sizeOf2 rfl rfl (r8_6.at H.zin) (fun _ => rfl) z12_15 c14.1 (by rw [ez12_15]; exact gel_some c14) rfl fun a v12 A12 h => ?_
   refine st1 h rfl rfl rfl (v_loadAt1 rfl A12 Tryz.isAgg2 rfl) fun a h => ?_
   refine st1 h rfl rfl rfl (v_assign rfl) fun a h => ?_
   refine c_nil hK ?_
   refine c_region fun K hK => ?_
   refine st1 h rfl rfl rfl (v_move rfl) fun a h => ?_
   refine c_nil hK ?_
   refine c_cond h rfl (fun ec16 => ?_) (fun ec16 => ?_)
   ·
    have hS := ifT ec16 hS
    refine c_lregion ?_
    refine st1 h rfl rfl rfl (v_move rfl) fun a h => ?_
    refine st1 h rfl rfl rfl (v_move rfl) fun a h => ?_
    obtain ⟨y18_17, hy18_17, hS⟩ := bo hS
    refine st2v (T := Ext) (V := .tuple #[.int .i64 y18_17.1, .bool y18_17.2]) h rfl rfl rfl (d_call [_, _] rfl Tryz.call53 (num_Add_ok (x0 := s8.1) (x1 := z12_15) hy18_17)) fun w X a h => ?_
    have H := H.ext X
    have A12 := At.ext A12 X
    refine st1 h rfl rfl rfl (v_move rfl) fun a h => ?_
    refine st1 h rfl rfl rfl (v_extract rfl rfl) fun a h => ?_
    refine st1 h rfl rfl rfl (v_extract rfl rfl) fun a h => ?_
    refine st1 h rfl rfl rfl (v_assign rfl) fun a h => ?_
    refine st1 h rfl rfl rfl (v_assign rfl) fun a h => ?_
    refine c_lnil ?_
    refine hN13 _ _ ?_
    have h := h.only [2, 3, 4, 8, 9, 10] (l' := [_, _, _, _, _, _]) rfl
    refine c_lregion ?_
    obtain ⟨z21_18, ez21_18, hS⟩ := bv hS
    refine st1 h rfl rfl rfl (vI ez21_18 (v_addw rfl rfl)) fun a h => ?_
    refine st1 h rfl rfl rfl (v_move rfl) fun a h => ?_
    refine c_lnil ?_
    exact hN9 _ _ _ (Nat.lt_succ_self _) ⟨_, (y18_17.1, y18_17.2, z21_18), lpN en8 hS, (h.only [2, 3, 4, 8, 9, 10] (l' := [_, _, _, _, _, _]) rfl), H, r8_6⟩
   ·
    have hS := ifF ec16 hS
    refine c_skip ?_
    refine hN13 _ _ ?_
    have h := h.only [2, 3, 4, 8, 9, 10] (l' := [_, _, _, _, _, _]) rfl
    refine c_lregion ?_
    obtain ⟨z21_19, ez21_19, hS⟩ := bv hS
    refine st1 h rfl rfl rfl (vI ez21_19 (v_addw rfl rfl)) fun a h => ?_
    refine st1 h rfl rfl rfl (v_move rfl) fun a h => ?_
    refine c_lnil ?_
    exact hN9 _ _ _ (Nat.lt_succ_self _) ⟨_, (s8.1, s8.2.1, z21_19), lpN en8 hS, (h.only [2, 3, 4, 8, 9, 10] (l' := [_, _, _, _, _, _]) rfl), H, r8_6⟩
  ·
   have hS := ifF ec12 hS
   refine c_exit ?_
   refine hx0_11 _ _ ?_
   exact hN2 _ _ ⟨_, (s8.1, s8.2.1), hS, (h.only [2, 3, 4] (l' := [_, _, _]) rfl), H⟩

theorem lists_Extreme_ok {x0 : Bool} {x1 : List (V)} {res : V} {w0 : World} (hS : lists_Extreme x0 x1 = some res) {xv1 : Value} (rp1 : RdZ (hz w0) xv1 3 vL x1) : Calls Tryz.prog 60 [.bool x0, xv1].toArray w0 (Ret fun v w => v = .agg #[.int .i64 res.k, .int .i64 res.n, S res.s] ∧ Ext w0 w) := by
 refine enter Tryz.func60 rfl rfl rfl fun Q a h hret0 hnor => ?_
 obtain ⟨Zi, Z, H, rp1⟩ : ∃ Zi Z, HZ w0 Zi Z [] w0 ∧ RdZ Z xv1 3 vL x1 := ⟨_, _, HZ.start w0, rp1⟩
 have h := h.only [0, 1] (l' := [_, _]) rfl
 unfold lists_Extreme at hS
 refine c_region fun K hK => ?_
 refine z_alloc h H Tryz.zeroValue25 [_, _, _] rfl rfl fun a p4_1 w X H h => ?_
 have H : HZ w0 _ _ [_] _ := H
 refine c_nil hK ?_
 refine c_region fun K hK => ?_
 refine st1 h rfl rfl rfl (v_move rfl) fun a h => ?_
 obtain ⟨y10_2, hy10_2, hS⟩ := bo hS
 refine z_callR (data := y10_2) h H rfl rfl rfl (d_call [_] rfl Tryz.call92 (lists_numbers_ok (x0 := x1) hy10_2 (rp1.hz H.zin))) fun v10_3 Z w hsub X H r10_3 a h => ?_
 have rp1 := rp1.sub hsub
 refine st1 h rfl rfl rfl (v_assign rfl) fun a h => ?_
 refine c_nil hK ?_
 refine c_seq _ (fun a w c => c) fun Q4 hN4 hO4 => ?_
 have hret4 := hO4.ret hret0
 refine c_region fun K hK => ?_
 refine st1 h rfl rfl rfl (v_move rfl) fun a h => ?_
 refine st1 h rfl rfl rfl (v_len Tryz.underlying52 rfl (r10_3.at H.zin)) fun a h => ?_
 obtain ⟨z13_5, ez13_5, hS⟩ := bv hS
 refine st1 h rfl rfl rfl (vB ez13_5 (v_eq rfl rfl)) fun a h => ?_
 refine c_nil hK ?_
 have h := h.only [0, 4, 5, 13] (l' := [_, _, _, _]) rfl
 refine c_cond h rfl (fun ec6 => ?_) (fun ec6 => ?_)
 ·
  have hS := ifT ec6 hS
  refine c_region fun K hK => ?_
  obtain ⟨y14_7, hy14_7, hS⟩ := bo hS
  refine st2v (T := Ext) (V := .agg #[.int .i64 y14_7.k, .int .i64 y14_7.n, S y14_7.s]) h rfl rfl rfl (d_call [_] rfl Tryz.call22 (value_Num_ok (x0 := (0 : Int)) hy14_7)) fun w X a h => ?_
  have H := H.ext X
  refine z_store h H 0 rfl rfl rfl Tryz.sizeOf25 [_, _, _] rfl rfl rfl (by simp) [_, _, _] rfl (hl' := [_]) rfl fun w H => ?_
  refine c_nil hK ?_
  have h := h.only [4] (l' := [_]) rfl
  obtain rfl := so hS
  refine c_ret (hret4 _ _ (out1 h rfl ⟨_, rfl, run_loadVar_agg (vs := [_, _, _]) Tryz.isAgg25 Tryz.sizeOf25 (H.hp.get 0 rfl) rfl rfl⟩ ?_))
  exact ⟨rfl, H.out⟩
 ·
  have hS := ifF ec6 hS
  refine c_skip ?_
  refine hN4 _ _ ?_
  refine c_region fun K hK => ?_
  refine st1 h rfl rfl rfl (v_move rfl) fun a h => ?_
  obtain ⟨c8, hS⟩ := ck hS
  obtain ⟨z16_9, ez16_9, hS⟩ := bv hS
  refine st_idx h Tryz.underlying52 Tryz.sizeOf2 rfl rfl (r10_3.at H.zin) (fun _ => rfl) z16_9 c8.1 (by rw [ez16_9]; exact gel_some c8) rfl fun a v16 A16 h => ?_
  refine st1 h rfl rfl rfl (v_loadAt1 rfl A16 Tryz.isAgg2 rfl) fun a h => ?_
  refine st1 h rfl rfl rfl (v_assign rfl) fun a h => ?_
  refine c_nil hK ?_
  have h := h.only [0, 4, 5, 6] (l' := [_, _, _, _]) rfl
  obtain ⟨J11, eJ11, hS⟩ := bv hS
  refine c_seq (fun a w => ∃ (Z : FZ) (s11 : Int), J11 s11 = some res ∧ Fr 38 [(4, .pointer (some ⟨p4_1, 0, none⟩)), (6, .int .i64 s11)] a ∧ HZ w0 Zi Z [.blk p4_1 (Cel [.int .i64 0, .int .i64 0, S []] 25)] w) ?_ fun Q10 hN10 hO10 => ?_
  ·
   rintro a w ⟨Z, s11, hS, h, H⟩
   subst eJ11
   refine c_region fun K hK => ?_
   refine st1 h rfl rfl rfl (v_move rfl) fun a h => ?_
   obtain ⟨y37_12, hy37_12, hS⟩ := bo hS
   refine st2v (T := Ext) (V := .agg #[.int .i64 y37_12.k, .int .i64 y37_12.n, S y37_12.s]) h rfl rfl rfl (d_call [_] rfl Tryz.call22 (value_Num_ok (x0 := s11) hy37_12)) fun w X a h => ?_
   have H := H.ext X
   refine z_store h H 0 rfl rfl rfl Tryz.sizeOf25 [_, _, _] rfl rfl rfl (by simp) [_, _, _] rfl (hl' := [_]) rfl fun w H => ?_
   refine c_nil hK ?_
   obtain rfl := so hS
   refine c_ret (hret0 _ _ (out1 h rfl ⟨_, rfl, run_loadVar_agg (vs := [_, _, _]) Tryz.isAgg25 Tryz.sizeOf25 (H.hp.get 0 rfl) rfl rfl⟩ ?_))
   exact ⟨rfl, H.out⟩
  ·
   have hret10 := hO10.ret hret0
   refine c_region fun K hK => ?_
   refine st1 h rfl rfl rfl (v_move rfl) fun a h => ?_
   refine st1 h rfl rfl rfl (v_len Tryz.underlying52 rfl (r10_3.at H.zin)) fun a h => ?_
   refine st1 h rfl rfl rfl (v_move rfl) fun a h => ?_
   refine c_nil hK ?_
   refine c_lblock fun Q13 hN13 hx0_13 hO13 => ?_
   have hret13 := hO13.ret hret10
   obtain ⟨B14, eB14, hS⟩ := bv hS
   refine c_loopN (fun mu_ a w => ∃ (Z : FZ) (s14 : Int × Int), loopF B14 mu_ s14 = some res ∧ Fr 38 [(0, .bool x0), (4, .pointer (some ⟨p4_1, 0, none⟩)), (6, .int .i64 s14.1), (18, v10_3), (19, .int .i64 (y10_2.length : Int)), (20, .int .i64 s14.2)] a ∧ HZ w0 Zi Z [.blk p4_1 (Cel [.int .i64 0, .int .i64 0, S []] 25)] w ∧ RdZ Z v10_3 1 (eI .i64) y10_2) KK ⟨_, (z16_9, 0), hS, (h.only [0, 4, 6, 18, 19, 20] (l' := [_, _, _, _, _, _]) rfl), H, r10_3⟩ ?_
   rintro mu_ a w ⟨Z, s14, hS, h, H, r10_3⟩ Q15 hN15 hO15
   obtain ⟨mu_, rfl, n14, en14, hS⟩ := lpX eB14 hS
   have hret15 := hO15.ret hret13
   have hx0_15 := hO15.exit (i := 0) rfl hx0_13
   refine c_region fun K hK => ?_
   obtain ⟨z21_16, ez21_16, hS⟩ := bv hS
   refine st1 h rfl rfl rfl (vB ez21_16 (v_lt rfl rfl)) fun a h => ?_
   refine c_nil hK ?_
   refine c_seq _ (fun a w c => c) fun Q17 hN17 hO17 => ?_
   have hret17 := hO17.ret hret15
   have hx0_17 := hO17.exit (i := 0) rfl hx0_15
   refine c_cond h rfl (fun ec18 => ?_) (fun ec18 => ?_)
   ·
    have hS := ifT ec18 hS
    refine c_skip ?_
    refine hN17 _ _ ?_
    refine c_block _ (fun a w c => c) fun Q19 hN19 hx1_19 hO19 => ?_
    have hret19 := hO19.ret hret15
    have hx0_19 := hO19.exit (i := 0) rfl hx0_15
    refine c_region fun K hK => ?_
    obtain ⟨c20, hS⟩ := ck hS
    obtain ⟨z22_21, ez22_21, hS⟩ := bv hS
    refine st_idx h Tryz.underlying52 Tryz.sizeOf2 rfl rfl (r10_3.at H.zin) (fun _ => rfl) z22_21 c20.1 (by rw [ez22_21]; exact gel_some c20) rfl fun a v22 A22 h => ?_
    refine st1 h rfl rfl rfl (v_loadAt1 rfl A22 Tryz.isAgg2 rfl) fun a h => ?_
    refine st1 h rfl rfl rfl (v_assign rfl) fun a h => ?_
    refine c_nil hK ?_
    refine c_region fun K hK => ?_
    refine st1 h rfl rfl rfl (v_move rfl) fun a h => ?_
    refine st1 h rfl rfl rfl (v_move rfl) fun a h => ?_
    obtain ⟨z26_22, ez26_22, hS⟩ := bv hS
    refine st1 h rfl rfl rfl (vB ez26_22 (v_gt rfl rfl)) fun a h => ?_
    refine st1 h rfl rfl rfl (v_move rfl) fun a h => ?_
    obtain ⟨z28_23, ez28_23, hS⟩ := bv hS
    refine st1 h rfl rfl rfl (vB ez28_23 (v_beq Tryz.underlying4 rfl rfl)) fun a h => ?_
    refine st1 h rfl rfl rfl (v_move rfl) fun a h => ?_
    refine st_g h rfl rfl (gT rfl) rfl rfl (fun e0 => v_move rfl) fun a h => ?_
    refine st_g h rfl rfl (gT rfl) rfl rfl (fun e0 => v_move rfl) fun a h => ?_
    obtain ⟨z32_24, ez32_24, hS⟩ := bv hS
    refine st_g h rfl rfl (gT rfl) rfl rfl (fun e0 => vB ez32_24 (v_ne (eg e0 rfl) (eg e0 rfl))) fun a h => ?_
    obtain ⟨z33_25, ez33_25, hS⟩ := bv hS
    refine st1 h rfl rfl rfl (vB ez33_25 (v_and rfl rfl)) fun a h => ?_
    refine c_nil hK ?_
    have h := h.only [0, 4, 6, 8, 18, 19, 20, 33] (l' := [_, _, _, _, _, _, _, _]) rfl
    refine c_cond h rfl (fun ec26 => ?_) (fun ec26 => ?_)
    ·
     have hS := ifT ec26 hS
     refine c_lregion ?_
     refine st1 h rfl rfl rfl (v_move rfl) fun a h => ?_
     refine st1 h rfl rfl rfl (v_assign rfl) fun a h => ?_
     refine c_lnil ?_
     refine hN19 _ _ ?_
     refine c_lregion ?_
     obtain ⟨z35_27, ez35_27, hS⟩ := bv hS
     refine st1 h rfl rfl rfl (vI ez35_27 (v_addw rfl rfl)) fun a h => ?_
     refine st1 h rfl rfl rfl (v_move rfl) fun a h => ?_
     refine c_lnil ?_
     exact hN15 _ _ _ (Nat.lt_succ_self _) ⟨_, (z22_21, z35_27), lpN en14 hS, (h.only [0, 4, 6, 18, 19, 20] (l' := [_, _, _, _, _, _]) rfl), H, r10_3⟩
    ·
     have hS := ifF ec26 hS
     refine c_skip ?_
     refine hN19 _ _ ?_
     refine c_lregion ?_
     obtain ⟨z35_28, ez35_28, hS⟩ := bv hS
     refine st1 h rfl rfl rfl (vI ez35_28 (v_addw rfl rfl)) fun a h => ?_
     refine st1 h rfl rfl rfl (v_move rfl) fun a h => ?_
     refine c_lnil ?_
     exact hN15 _ _ _ (Nat.lt_succ_self _) ⟨_, (s14.1, z35_28), lpN en14 hS, (h.only [0, 4, 6, 18, 19, 20] (l' := [_, _, _, _, _, _]) rfl), H, r10_3⟩
   ·
    have hS := ifF ec18 hS
    refine c_exit ?_
    refine hx0_17 _ _ ?_
    exact hN10 _ _ ⟨_, s14.1, hS, (h.only [4, 6] (l' := [_, _]) rfl), H⟩

theorem lists_equal_ok {x0 : V} {x1 : V} {res : Bool} {w0 : World} (hS : lists_equal x0 x1 = some res) : Calls Tryz.prog 93 [.agg #[.int .i64 x0.k, .int .i64 x0.n, S x0.s], .agg #[.int .i64 x1.k, .int .i64 x1.n, S x1.s]].toArray w0 (Ret fun v w => v = .bool res ∧ Ext w0 w) := by
 refine enter Tryz.func93 rfl rfl rfl fun Q a h hret0 hnor => ?_
 obtain ⟨Zi, Z, H⟩ : ∃ Zi Z, HZ w0 Zi Z [] w0 := ⟨_, _, HZ.start w0⟩
 have h := h.only [0, 1] (l' := [_, _]) rfl
 unfold lists_equal at hS
 refine c_region fun K hK => ?_
 refine z_box h H rfl [_, _, _] rfl rfl fun a p2_1 w X H h => ?_
 have H : HZ w0 _ _ [_] _ := H
 refine z_box h H rfl [_, _, _] rfl rfl fun a p3_2 w X H h => ?_
 have H : HZ w0 _ _ [_, _] _ := H
 refine st1 h rfl rfl rfl (v_assign rfl) fun a h => ?_
 refine c_nil hK ?_
 refine c_region fun K hK => ?_
 refine st1 h rfl rfl rfl (v_fieldAddr rfl Tryz.underlying25 rfl Tryz.sizeOf3 rfl rfl) fun a h => ?_
 refine st1 h rfl rfl rfl (v_load1 rfl Tryz.isAgg3 (H.hp.get 0 rfl) rfl) fun a h => ?_
 refine st1 h rfl rfl rfl (v_fieldAddr rfl Tryz.underlying25 rfl Tryz.sizeOf3 rfl rfl) fun a h => ?_
 refine st1 h rfl rfl rfl (v_load1 rfl Tryz.isAgg3 (H.hp.get 1 rfl) rfl) fun a h => ?_
 obtain ⟨z9_3, ez9_3, hS⟩ := bv hS
 refine st1 h rfl rfl rfl (vB ez9_3 (v_eq rfl rfl)) fun a h => ?_
 refine st1 h rfl rfl rfl (v_move rfl) fun a h => ?_
 refine st_g h rfl rfl (gT rfl) rfl rfl (fun e0 => v_fieldAddr rfl Tryz.underlying25 rfl Tryz.sizeOf2 rfl rfl) fun a h => ?_
 refine st_g h rfl rfl (gT rfl) rfl rfl (fun e0 => v_load1 (eg e0 rfl) Tryz.isAgg2 (H.hp.get 0 rfl) rfl) fun a h => ?_
 refine st_g h rfl rfl (gT rfl) rfl rfl (fun e0 => v_fieldAddr rfl Tryz.underlying25 rfl Tryz.sizeOf2 rfl rfl) fun a h => ?_
 refine st_g h rfl rfl (gT rfl) rfl rfl (fun e0 => v_load1 (eg e0 rfl) Tryz.isAgg2 (H.hp.get 1 rfl) rfl) fun a h => ?_
 obtain ⟨z15_4, ez15_4, hS⟩ := bv hS
 refine st_g h rfl rfl (gT rfl) rfl rfl (fun e0 => vB ez15_4 (v_eq (eg e0 rfl) (eg e0 rfl))) fun a h => ?_
 obtain ⟨z16_5, ez16_5, hS⟩ := bv hS
 refine st1 h rfl rfl rfl (vB ez16_5 (v_and rfl rfl)) fun a h => ?_
 refine st1 h rfl rfl rfl (v_move rfl) fun a h => ?_
 refine st_g h rfl rfl (gT rfl) rfl rfl (fun e0 => v_fieldAddr rfl Tryz.underlying25 rfl Tryz.sizeOf9 rfl rfl) fun a h => ?_
 refine st_g h rfl rfl (gT rfl) rfl rfl (fun e0 => v_load1 (eg e0 rfl) Tryz.isAgg9 (H.hp.get 0 rfl) rfl) fun a h => ?_
 refine st_g h rfl rfl (gT rfl) rfl rfl (fun e0 => v_fieldAddr rfl Tryz.underlying25 rfl Tryz.sizeOf9 rfl rfl) fun a h => ?_
 refine st_g h rfl rfl (gT rfl) rfl rfl (fun e0 => v_load1 (eg e0 rfl) Tryz.isAgg9 (H.hp.get 1 rfl) rfl) fun a h => ?_
 obtain ⟨z22_6, ez22_6, hS⟩ := bv hS
 refine st_g h rfl rfl (gT rfl) rfl rfl (fun e0 => vB ez22_6 (v_seq (eg e0 rfl) (eg e0 rfl))) fun a h => ?_
 obtain ⟨z23_7, ez23_7, hS⟩ := bv hS
 refine st1 h rfl rfl rfl (vB ez23_7 (v_and rfl rfl)) fun a h => ?_
 refine st1 h rfl rfl rfl (v_assign rfl) fun a h => ?_
 refine c_nil hK ?_
 have h := h.only [4] (l' := [_]) rfl
 obtain rfl := so hS
 refine c_ret (hret0 _ _ (out1 h rfl rfl ?_))
 exact ⟨rfl, H.out⟩

theorem lists_Count_ok {x0 : Int} {x1 : Bool} {x2 : List (V)} {res : V} {w0 : World} (hS : lists_Count x0 x1 x2 = some res) {xv2 : Value} (rp2 : RdZ (hz w0) xv2 3 vL x2) : Calls Tryz.prog 64 [.int .i64 x0, .bool x1, xv2].toArray w0 (Ret fun v w => v = .agg #[.int .i64 res.k, .int .i64 res.n, S res.s] ∧ Ext w0 w) := by
 refine enter Tryz.func64 rfl rfl rfl fun Q a h hret0 hnor => ?_
 obtain ⟨Zi, Z, H, rp2⟩ : ∃ Zi Z, HZ w0 Zi Z [] w0 ∧ RdZ Z xv2 3 vL x2 := ⟨_, _, HZ.start w0, rp2⟩
 have h := h.only [0, 1, 2] (l' := [_, _, _]) rfl
 unfold lists_Count at hS
 refine c_region fun K hK => ?_
 refine z_alloc h H Tryz.zeroValue25 [_, _, _] rfl rfl fun a p6_1 w X H h => ?_
 have H : HZ w0 _ _ [_] _ := H
 refine c_nil hK ?_
 refine c_region fun K hK => ?_
 refine st1 h rfl rfl rfl (v_assign rfl) fun a h => ?_
 refine c_nil hK ?_
 obtain ⟨J3, eJ3, hS⟩ := bv hS
 refine c_seq (fun a w => ∃ (Z : FZ) (s3 : Int), J3 s3 = some res ∧ Fr 30 [(6, .pointer (some ⟨p6_1, 0, none⟩)), (7, .int .i64 s3)] a ∧ HZ w0 Zi Z [.blk p6_1 (Cel [.int .i64 0, .int .i64 0, S []] 25)] w) ?_ fun Q2 hN2 hO2 => ?_
 ·
  rintro a w ⟨Z, s3, hS, h, H⟩
  subst eJ3
  refine c_region fun K hK => ?_
  refine st1 h rfl rfl rfl (v_move rfl) fun a h => ?_
  obtain ⟨y26_4, hy26_4, hS⟩ := bo hS
  refine st2v (T := Ext) (V := .tuple #[.int .i64 y26_4.1, .bool y26_4.2]) h rfl rfl rfl (d_call [_] rfl Tryz.call43 (num_Of_ok (x0 := s3) hy26_4)) fun w X a h => ?_
  have H := H.ext X
  refine st1 h rfl rfl rfl (v_extract rfl rfl) fun a h => ?_
  refine st1 h rfl rfl rfl (v_extract rfl rfl) fun a h => ?_
  obtain ⟨y29_5, hy29_5, hS⟩ := bo hS
  refine st2v (T := Ext) (V := .agg #[.int .i64 y29_5.k, .int .i64 y29_5.n, S y29_5.s]) h rfl rfl rfl (d_call [_, _] rfl Tryz.call35 (value_Made_ok (x0 := y26_4.1) (x1 := y26_4.2) hy29_5)) fun w X a h => ?_
  have H := H.ext X
  refine z_store h H 0 rfl rfl rfl Tryz.sizeOf25 [_, _, _] rfl rfl rfl (by simp) [_, _, _] rfl (hl' := [_]) rfl fun w H => ?_
  refine c_nil hK ?_
  have h := h.only [6] (l' := [_]) rfl
  obtain rfl := so hS
  refine c_ret (hret0 _ _ (out1 h rfl ⟨_, rfl, run_loadVar_agg (vs := [_, _, _]) Tryz.isAgg25 Tryz.sizeOf25 (H.hp.get 0 rfl) rfl rfl⟩ ?_))
  exact ⟨rfl, H.out⟩
 ·
  have hret2 := hO2.ret hret0
  refine c_region fun K hK => ?_
  refine st1 h rfl rfl rfl (v_move rfl) fun a h => ?_
  refine st1 h rfl rfl rfl (v_len Tryz.underlying22 rfl (rp2.at H.zin)) fun a h => ?_
  refine st1 h rfl rfl rfl (v_move rfl) fun a h => ?_
  refine c_nil hK ?_
  refine c_lblock fun Q6 hN6 hx0_6 hO6 => ?_
  have hret6 := hO6.ret hret2
  obtain ⟨B7, eB7, hS⟩ := bv hS
  refine c_loopN (fun mu_ a w => ∃ (Z : FZ) (s7 : Int × Int), loopF B7 mu_ s7 = some res ∧ Fr 30 [(0, .int .i64 x0), (1, .bool x1), (6, .pointer (some ⟨p6_1, 0, none⟩)), (7, .int .i64 s7.1), (10, xv2), (11, .int .i64 (x2.length : Int)), (12, .int .i64 s7.2)] a ∧ HZ w0 Zi Z [.blk p6_1 (Cel [.int .i64 0, .int .i64 0, S []] 25)] w ∧ RdZ Z xv2 3 vL x2) KK ⟨_, (0, 0), hS, (h.only [0, 1, 6, 7, 10, 11, 12] (l' := [_, _, _, _, _, _, _]) rfl), H, rp2⟩ ?_
  rintro mu_ a w ⟨Z, s7, hS, h, H, rp2⟩ Q8 hN8 hO8
  obtain ⟨mu_, rfl, n7, en7, hS⟩ := lpX eB7 hS
  have hret8 := hO8.ret hret6
  have hx0_8 := hO8.exit (i := 0) rfl hx0_6
  refine c_region fun K hK => ?_
  obtain ⟨z13_9, ez13_9, hS⟩ := bv hS
  refine st1 h rfl rfl rfl (vB ez13_9 (v_lt rfl rfl)) fun a h => ?_
  refine c_nil hK ?_
  refine c_seq _ (fun a w c => c) fun Q10 hN10 hO10 => ?_
  have hret10 := hO10.ret hret8
  have hx0_10 := hO10.exit (i := 0) rfl hx0_8
  refine c_cond h rfl (fun ec11 => ?_) (fun ec11 => ?_)
  ·
   have hS := ifT ec11 hS
   refine c_skip ?_
   refine hN10 _ _ ?_
   refine c_block _ (fun a w c => c) fun Q12 hN12 hx1_12 hO12 => ?_
   have hret12 := hO12.ret hret8
   have hx0_12 := hO12.exit (i := 0) rfl hx0_8
   refine c_region fun K hK => ?_
   obtain ⟨c13, hS⟩ := ck hS
   obtain ⟨z14_14, ez14_14, hS⟩ := bv hS
   refine st_idx h Tryz.underlying22 Tryz.sizeOf25 rfl rfl (rp2.at H.zin) (fun _ => rfl) z14_14 c13.1 (by rw [ez14_14]; exact gel_some c13) rfl fun a v14 A14 h => ?_
   refine st1 h rfl rfl rfl (v_loadAtA [_, _, _] rfl A14 Tryz.isAgg25 Tryz.sizeOf25 rfl rfl) fun a h => ?_
   refine z_alloc h H Tryz.zeroValue25 [_, _, _] rfl rfl fun a p9_15 w X H h => ?_
   have A14 := At.ext A14 X
   have H : HZ w0 _ _ [_, _] _ := H
   refine z_store h H 1 rfl rfl rfl Tryz.sizeOf25 [_, _, _] rfl rfl rfl (by simp) [_, _, _] rfl (hl' := [_, _]) rfl fun w H => ?_
   refine c_nil hK ?_
   refine c_region fun K hK => ?_
   refine st1 h rfl rfl rfl (v_fieldAddr rfl Tryz.underlying25 rfl Tryz.sizeOf3 rfl rfl) fun a h => ?_
   refine st1 h rfl rfl rfl (v_load1 rfl Tryz.isAgg3 (H.hp.get 1 rfl) rfl) fun a h => ?_
   refine st1 h rfl rfl rfl (v_move rfl) fun a h => ?_
   obtain ⟨z19_16, ez19_16, hS⟩ := bv hS
   refine st1 h rfl rfl rfl (vB ez19_16 (v_eq rfl rfl)) fun a h => ?_
   refine st1 h rfl rfl rfl (v_move rfl) fun a h => ?_
   obtain ⟨z21_17, ez21_17, hS⟩ := bv hS
   refine st1 h rfl rfl rfl (vB ez21_17 (v_beq Tryz.underlying4 rfl rfl)) fun a h => ?_
   refine c_nil hK ?_
   have h := h.only [0, 1, 6, 7, 10, 11, 12, 21] (l' := [_, _, _, _, _, _, _, _]) rfl
   refine c_cond h rfl (fun ec18 => ?_) (fun ec18 => ?_)
   ·
    have hS := ifT ec18 hS
    refine c_lregion ?_
    refine st1 h rfl rfl rfl (v_move rfl) fun a h => ?_
    obtain ⟨z23_19, ez23_19, hS⟩ := bv hS
    refine st1 h rfl rfl rfl (vI ez23_19 (v_addw rfl rfl)) fun a h => ?_
    refine st1 h rfl rfl rfl (v_assign rfl) fun a h => ?_
    refine c_lnil ?_
    refine hN12 _ _ ?_
    refine c_lregion ?_
    obtain ⟨z24_20, ez24_20, hS⟩ := bv hS
    refine st1 h rfl rfl rfl (vI ez24_20 (v_addw rfl rfl)) fun a h => ?_
    refine st1 h rfl rfl rfl (v_move rfl) fun a h => ?_
    refine c_lnil ?_
    exact hN8 _ _ _ (Nat.lt_succ_self _) ⟨_, (z23_19, z24_20), lpN en7 hS, (h.only [0, 1, 6, 7, 10, 11, 12] (l' := [_, _, _, _, _, _, _]) rfl), (H.keepN 1 rfl), rp2⟩
   ·
    have hS := ifF ec18 hS
    refine c_skip ?_
    refine hN12 _ _ ?_
    refine c_lregion ?_
    obtain ⟨z24_21, ez24_21, hS⟩ := bv hS
    refine st1 h rfl rfl rfl (vI ez24_21 (v_addw rfl rfl)) fun a h => ?_
    refine st1 h rfl rfl rfl (v_move rfl) fun a h => ?_
    refine c_lnil ?_
    exact hN8 _ _ _ (Nat.lt_succ_self _) ⟨_, (s7.1, z24_21), lpN en7 hS, (h.only [0, 1, 6, 7, 10, 11, 12] (l' := [_, _, _, _, _, _, _]) rfl), (H.keepN 1 rfl), rp2⟩
  ·
   have hS := ifF ec11 hS
   refine c_exit ?_
   refine hx0_10 _ _ ?_
   exact hN2 _ _ ⟨_, s7.1, hS, (h.only [6, 7] (l' := [_, _]) rfl), H⟩

theorem lists_CountIf_ok {x0 : V} {x1 : List (V)} {res : V} {w0 : World} (hS : lists_CountIf x0 x1 = some res) {xv1 : Value} (rp1 : RdZ (hz w0) xv1 3 vL x1) : Calls Tryz.prog 66 [.agg #[.int .i64 x0.k, .int .i64 x0.n, S x0.s], xv1].toArray w0 (Ret fun v w => v = .agg #[.int .i64 res.k, .int .i64 res.n, S res.s] ∧ Ext w0 w) := by
 refine enter Tryz.func66 rfl rfl rfl fun Q a h hret0 hnor => ?_
 obtain ⟨Zi, Z, H, rp1⟩ : ∃ Zi Z, HZ w0 Zi Z [] w0 ∧ RdZ Z xv1 3 vL x1 := ⟨_, _, HZ.start w0, rp1⟩
 have h := h.only [0, 1] (l' := [_, _]) rfl
 unfold lists_CountIf at hS
 refine c_region fun K hK => ?_
 refine z_box h H rfl [_, _, _] rfl rfl fun a p2_1 w X H h => ?_
 have H : HZ w0 _ _ [_] _ := H
 refine z_alloc h H Tryz.zeroValue25 [_, _, _] rfl rfl fun a p4_2 w X H h => ?_
 have H : HZ w0 _ _ [_, _] _ := H
 refine c_nil hK ?_
 refine c_region fun K hK => ?_
 refine st1 h rfl rfl rfl (v_assign rfl) fun a h => ?_
 refine c_nil hK ?_
 obtain ⟨J4, eJ4, hS⟩ := bv hS
 refine c_seq (fun a w => ∃ (Z : FZ) (s4 : Int), J4 s4 = some res ∧ Fr 25 [(4, .pointer (some ⟨p4_2, 0, none⟩)), (5, .int .i64 s4)] a ∧ HZ w0 Zi Z [.blk p2_1 (Cel [.int .i64 x0.k, .int .i64 x0.n, S x0.s] 25), .blk p4_2 (Cel [.int .i64 0, .int .i64 0, S []] 25)] w) ?_ fun Q3 hN3 hO3 => ?_
 ·
  rintro a w ⟨Z, s4, hS, h, H⟩
  subst eJ4
  refine c_region fun K hK => ?_
  refine st1 h rfl rfl rfl (v_move rfl) fun a h => ?_
  obtain ⟨y21_5, hy21_5, hS⟩ := bo hS
  refine st2v (T := Ext) (V := .tuple #[.int .i64 y21_5.1, .bool y21_5.2]) h rfl rfl rfl (d_call [_] rfl Tryz.call43 (num_Of_ok (x0 := s4) hy21_5)) fun w X a h => ?_
  have H := H.ext X
  refine st1 h rfl rfl rfl (v_extract rfl rfl) fun a h => ?_
  refine st1 h rfl rfl rfl (v_extract rfl rfl) fun a h => ?_
  obtain ⟨y24_6, hy24_6, hS⟩ := bo hS
  refine st2v (T := Ext) (V := .agg #[.int .i64 y24_6.k, .int .i64 y24_6.n, S y24_6.s]) h rfl rfl rfl (d_call [_, _] rfl Tryz.call35 (value_Made_ok (x0 := y21_5.1) (x1 := y21_5.2) hy24_6)) fun w X a h => ?_
  have H := H.ext X
  refine z_store h H 1 rfl rfl rfl Tryz.sizeOf25 [_, _, _] rfl rfl rfl (by simp) [_, _, _] rfl (hl' := [_, _]) rfl fun w H => ?_
  refine c_nil hK ?_
  have h := h.only [4] (l' := [_]) rfl
  obtain rfl := so hS
  refine c_ret (hret0 _ _ (out1 h rfl ⟨_, rfl, run_loadVar_agg (vs := [_, _, _]) Tryz.isAgg25 Tryz.sizeOf25 (H.hp.get 1 rfl) rfl rfl⟩ ?_))
  exact ⟨rfl, H.out⟩
 ·
  have hret3 := hO3.ret hret0
  refine c_region fun K hK => ?_
  refine st1 h rfl rfl rfl (v_move rfl) fun a h => ?_
  refine st1 h rfl rfl rfl (v_len Tryz.underlying22 rfl (rp1.at H.zin)) fun a h => ?_
  refine st1 h rfl rfl rfl (v_move rfl) fun a h => ?_
  refine c_nil hK ?_
  refine c_lblock fun Q7 hN7 hx0_7 hO7 => ?_
  have hret7 := hO7.ret hret3
  obtain ⟨B8, eB8, hS⟩ := bv hS
  refine c_loopN (fun mu_ a w => ∃ (Z : FZ) (s8 : Int × Int), loopF B8 mu_ s8 = some res ∧ Fr 25 [(2, .pointer (some ⟨p2_1, 0, none⟩)), (4, .pointer (some ⟨p4_2, 0, none⟩)), (5, .int .i64 s8.1), (8, xv1), (9, .int .i64 (x1.length : Int)), (10, .int .i64 s8.2)] a ∧ HZ w0 Zi Z [.blk p2_1 (Cel [.int .i64 x0.k, .int .i64 x0.n, S x0.s] 25), .blk p4_2 (Cel [.int .i64 0, .int .i64 0, S []] 25)] w ∧ RdZ Z xv1 3 vL x1) KK ⟨_, (0, 0), hS, (h.only [2, 4, 5, 8, 9, 10] (l' := [_, _, _, _, _, _]) rfl), H, rp1⟩ ?_
  rintro mu_ a w ⟨Z, s8, hS, h, H, rp1⟩ Q9 hN9 hO9
  obtain ⟨mu_, rfl, n8, en8, hS⟩ := lpX eB8 hS
  have hret9 := hO9.ret hret7
  have hx0_9 := hO9.exit (i := 0) rfl hx0_7
  refine c_region fun K hK => ?_
  obtain ⟨z11_10, ez11_10, hS⟩ := bv hS
  refine st1 h rfl rfl rfl (vB ez11_10 (v_lt rfl rfl)) fun a h => ?_
  refine c_nil hK ?_
  refine c_seq _ (fun a w c => c) fun Q11 hN11 hO11 => ?_
  have hret11 := hO11.ret hret9
  have hx0_11 := hO11.exit (i := 0) rfl hx0_9
  refine c_cond h rfl (fun ec12 => ?_) (fun ec12 => ?_)
  ·
   have hS := ifT ec12 hS
   refine c_skip ?_
   refine hN11 _ _ ?_
   refine c_block _ (fun a w c => c) fun Q13 hN13 hx1_13 hO13 => ?_
   have hret13 := hO13.ret hret9
   have hx0_13 := hO13.exit (i := 0) rfl hx0_9
   refine c_region fun K hK => ?_
   obtain ⟨c14, hS⟩ := ck hS
   obtain ⟨z12_15, ez12_15, hS⟩ := bv hS
   refine st_idx h Tryz.underlying22 Tryz.sizeOf25 rfl rfl (rp1.at H.zin) (fun _ => rfl) z12_15 c14.1 (by rw [ez12_15]; exact gel_some c14) rfl fun a v12 A12 h => ?_
   refine st1 h rfl rfl rfl (v_loadAtA [_, _, _] rfl A12 Tryz.isAgg25 Tryz.sizeOf25 rfl rfl) fun a h => ?_
   refine z_alloc h H Tryz.zeroValue25 [_, _, _] rfl rfl fun a p7_16 w X H h => ?_
   have A12 := At.ext A12 X
   have H : HZ w0 _ _ [_, _, _] _ := H
   refine z_store h H 2 rfl rfl rfl Tryz.sizeOf25 [_, _, _] rfl rfl rfl (by simp) [_, _, _] rfl (hl' := [_, _, _]) rfl fun w H => ?_
   refine c_nil hK ?_
   refine c_region fun K hK => ?_
   refine st1 h rfl rfl rfl (v_loadA [_, _, _] rfl Tryz.isAgg25 Tryz.sizeOf25 (H.hp.get 2 rfl) rfl rfl) fun a h => ?_
   refine st1 h rfl rfl rfl (v_loadA [_, _, _] rfl Tryz.isAgg25 Tryz.sizeOf25 (H.hp.get 0 rfl) rfl rfl) fun a h => ?_
   obtain ⟨y16_17, hy16_17, hS⟩ := bo hS
   refine st2v (T := Ext) (V := .bool y16_17) h rfl rfl rfl (d_call [_, _] rfl Tryz.call93 (lists_equal_ok (x0 := z12_15) (x1 := x0) hy16_17)) fun w X a h => ?_
   have H := H.ext X
   refine c_nil hK ?_
   have h := h.only [2, 4, 5, 8, 9, 10, 16] (l' := [_, _, _, _, _, _, _]) rfl
   refine c_cond h rfl (fun ec18 => ?_) (fun ec18 => ?_)
   ·
    have hS := ifT ec18 hS
    refine c_lregion ?_
    refine st1 h rfl rfl rfl (v_move rfl) fun a h => ?_
    obtain ⟨z18_19, ez18_19, hS⟩ := bv hS
    refine st1 h rfl rfl rfl (vI ez18_19 (v_addw rfl rfl)) fun a h => ?_
    refine st1 h rfl rfl rfl (v_assign rfl) fun a h => ?_
    refine c_lnil ?_
    refine hN13 _ _ ?_
    refine c_lregion ?_
    obtain ⟨z19_20, ez19_20, hS⟩ := bv hS
    refine st1 h rfl rfl rfl (vI ez19_20 (v_addw rfl rfl)) fun a h => ?_
    refine st1 h rfl rfl rfl (v_move rfl) fun a h => ?_
    refine c_lnil ?_
    exact hN9 _ _ _ (Nat.lt_succ_self _) ⟨_, (z18_19, z19_20), lpN en8 hS, (h.only [2, 4, 5, 8, 9, 10] (l' := [_, _, _, _, _, _]) rfl), (H.keepN 2 rfl), rp1⟩
   ·
    have hS := ifF ec18 hS
    refine c_skip ?_
    refine hN13 _ _ ?_
    refine c_lregion ?_
    obtain ⟨z19_21, ez19_21, hS⟩ := bv hS
    refine st1 h rfl rfl rfl (vI ez19_21 (v_addw rfl rfl)) fun a h => ?_
    refine st1 h rfl rfl rfl (v_move rfl) fun a h => ?_
    refine c_lnil ?_
    exact hN9 _ _ _ (Nat.lt_succ_self _) ⟨_, (s8.1, z19_21), lpN en8 hS, (h.only [2, 4, 5, 8, 9, 10] (l' := [_, _, _, _, _, _]) rfl), (H.keepN 2 rfl), rp1⟩
  ·
   have hS := ifF ec12 hS
   refine c_exit ?_
   refine hx0_11 _ _ ?_
   exact hN3 _ _ ⟨_, s8.1, hS, (h.only [4, 5] (l' := [_, _]) rfl), H⟩

theorem lists_SumIf_ok {x0 : V} {x1 : List (V)} {res : V} {w0 : World} (hS : lists_SumIf x0 x1 = some res) {xv1 : Value} (rp1 : RdZ (hz w0) xv1 3 vL x1) : Calls Tryz.prog 67 [.agg #[.int .i64 x0.k, .int .i64 x0.n, S x0.s], xv1].toArray w0 (Ret fun v w => v = .agg #[.int .i64 res.k, .int .i64 res.n, S res.s] ∧ Ext w0 w) := by
 refine enter Tryz.func67 rfl rfl rfl fun Q a h hret0 hnor => ?_
 obtain ⟨Zi, Z, H, rp1⟩ : ∃ Zi Z, HZ w0 Zi Z [] w0 ∧ RdZ Z xv1 3 vL x1 := ⟨_, _, HZ.start w0, rp1⟩
 have h := h.only [0, 1] (l' := [_, _]) rfl
 unfold lists_SumIf at hS
 refine c_region fun K hK => ?_
 refine z_box h H rfl [_, _, _] rfl rfl fun a p2_1 w X H h => ?_
 have H : HZ w0 _ _ [_] _ := H
 refine z_alloc h H Tryz.zeroValue25 [_, _, _] rfl rfl fun a p4_2 w X H h => ?_
 have H : HZ w0 _ _ [_, _] _ := H
 refine c_nil hK ?_
 refine c_region fun K hK => ?_
 refine st1 h rfl rfl rfl (v_assign rfl) fun a h => ?_
 refine c_nil hK ?_
 have H := H.nilRow 25 3 rfl
 have H : HZ w0 _ _ [_, _, _] _ := H
 obtain ⟨J4, eJ4, hS⟩ := bv hS
 refine c_seq (fun a w => ∃ (Z : FZ) (s4 : (List (V))) (sv5 : Value), J4 s4 = some res ∧ Fr 24 [(4, .pointer (some ⟨p4_2, 0, none⟩)), (5, sv5)] a ∧ HZ w0 Zi Z [.blk p2_1 (Cel [.int .i64 x0.k, .int .i64 x0.n, S x0.s] 25), .blk p4_2 (Cel [.int .i64 0, .int .i64 0, S []] 25), .row 25 3 sv5 (s4 : List (V)).length ((s4 : List (V)).flatMap vL)] w) ?_ fun Q3 hN3 hO3 => ?_
 ·
  rintro a w ⟨Z, s4, sv5, hS, h, H⟩
  subst eJ4
  refine c_region fun K hK => ?_
  refine st1 h rfl rfl rfl (v_move rfl) fun a h => ?_
  obtain ⟨y23_6, hy23_6, hS⟩ := bo hS
  refine st2v (T := Ext) (V := .agg #[.int .i64 y23_6.k, .int .i64 y23_6.n, S y23_6.s]) h rfl rfl rfl (d_call [_] rfl Tryz.call62 (lists_Sum_ok (x0 := s4) hy23_6 (H.rowZ (i := 2) (enc := vL) rfl))) fun w X a h => ?_
  have H := H.ext X
  refine z_store h H 1 rfl rfl rfl Tryz.sizeOf25 [_, _, _] rfl rfl rfl (by simp) [_, _, _] rfl (hl' := [_, _, _]) rfl fun w H => ?_
  refine c_nil hK ?_
  obtain rfl := so hS
  refine c_ret (hret0 _ _ (out1 h rfl ⟨_, rfl, run_loadVar_agg (vs := [_, _, _]) Tryz.isAgg25 Tryz.sizeOf25 (H.hp.get 1 rfl) rfl rfl⟩ ?_))
  exact ⟨rfl, H.out⟩
 ·
  have hret3 := hO3.ret hret0
  refine c_region fun K hK => ?_
  refine st1 h rfl rfl rfl (v_move rfl) fun a h => ?_
  refine st1 h rfl rfl rfl (v_len Tryz.underlying22 rfl (rp1.at H.zin)) fun a h => ?_
  refine st1 h rfl rfl rfl (v_move rfl) fun a h => ?_
  refine c_nil hK ?_
  refine c_lblock fun Q7 hN7 hx0_7 hO7 => ?_
  have hret7 := hO7.ret hret3
  obtain ⟨B8, eB8, hS⟩ := bv hS
  refine c_loopN (fun mu_ a w => ∃ (Z : FZ) (s8 : Int × (List (V))) (sv10 : Value), loopF B8 mu_ s8 = some res ∧ Fr 24 [(2, .pointer (some ⟨p2_1, 0, none⟩)), (4, .pointer (some ⟨p4_2, 0, none⟩)), (5, sv10), (8, xv1), (9, .int .i64 (x1.length : Int)), (10, .int .i64 s8.1)] a ∧ HZ w0 Zi Z [.blk p2_1 (Cel [.int .i64 x0.k, .int .i64 x0.n, S x0.s] 25), .blk p4_2 (Cel [.int .i64 0, .int .i64 0, S []] 25), .row 25 3 sv10 (s8.2 : List (V)).length ((s8.2 : List (V)).flatMap vL)] w ∧ RdZ Z xv1 3 vL x1) KK ⟨_, (0, ([] : List (V))), _, hS, (h.only [2, 4, 5, 8, 9, 10] (l' := [_, _, _, _, _, _]) rfl), H, rp1⟩ ?_
  rintro mu_ a w ⟨Z, s8, sv10, hS, h, H, rp1⟩ Q9 hN9 hO9
  obtain ⟨mu_, rfl, n8, en8, hS⟩ := lpX eB8 hS
  have hret9 := hO9.ret hret7
  have hx0_9 := hO9.exit (i := 0) rfl hx0_7
  refine c_region fun K hK => ?_
  obtain ⟨z11_11, ez11_11, hS⟩ := bv hS
  refine st1 h rfl rfl rfl (vB ez11_11 (v_lt rfl rfl)) fun a h => ?_
  refine c_nil hK ?_
  refine c_seq _ (fun a w c => c) fun Q12 hN12 hO12 => ?_
  have hret12 := hO12.ret hret9
  have hx0_12 := hO12.exit (i := 0) rfl hx0_9
  refine c_cond h rfl (fun ec13 => ?_) (fun ec13 => ?_)
  ·
   have hS := ifT ec13 hS
   refine c_skip ?_
   refine hN12 _ _ ?_
   refine c_block _ (fun a w c => c) fun Q14 hN14 hx1_14 hO14 => ?_
   have hret14 := hO14.ret hret9
   have hx0_14 := hO14.exit (i := 0) rfl hx0_9
   refine c_region fun K hK => ?_
   obtain ⟨c15, hS⟩ := ck hS
   obtain ⟨z12_16, ez12_16, hS⟩ := bv hS
   refine st_idx h Tryz.underlying22 Tryz.sizeOf25 rfl rfl (rp1.at H.zin) (fun _ => rfl) z12_16 c15.1 (by rw [ez12_16]; exact gel_some c15) rfl fun a v12 A12 h => ?_
   refine st1 h rfl rfl rfl (v_loadAtA [_, _, _] rfl A12 Tryz.isAgg25 Tryz.sizeOf25 rfl rfl) fun a h => ?_
   refine z_alloc h H Tryz.zeroValue25 [_, _, _] rfl rfl fun a p7_17 w X H h => ?_
   have A12 := At.ext A12 X
   have H : HZ w0 _ _ [_, _, _, _] _ := H
   refine z_store h H 3 rfl rfl rfl Tryz.sizeOf25 [_, _, _] rfl rfl rfl (by simp) [_, _, _] rfl (hl' := [_, _, _, _]) rfl fun w H => ?_
   refine c_nil hK ?_
   refine c_region fun K hK => ?_
   refine st1 h rfl rfl rfl (v_loadA [_, _, _] rfl Tryz.isAgg25 Tryz.sizeOf25 (H.hp.get 3 rfl) rfl rfl) fun a h => ?_
   refine st1 h rfl rfl rfl (v_loadA [_, _, _] rfl Tryz.isAgg25 Tryz.sizeOf25 (H.hp.get 0 rfl) rfl rfl) fun a h => ?_
   obtain ⟨y16_18, hy16_18, hS⟩ := bo hS
   refine st2v (T := Ext) (V := .bool y16_18) h rfl rfl rfl (d_call [_, _] rfl Tryz.call93 (lists_equal_ok (x0 := z12_16) (x1 := x0) hy16_18)) fun w X a h => ?_
   have H := H.ext X
   refine c_nil hK ?_
   have h := h.only [2, 4, 5, 7, 8, 9, 10, 16] (l' := [_, _, _, _, _, _, _, _]) rfl
   refine c_cond h rfl (fun ec19 => ?_) (fun ec19 => ?_)
   ·
    have hS := ifT ec19 hS
    refine c_lregion ?_
    refine st1 h rfl rfl rfl (v_move rfl) fun a h => ?_
    refine st1 h rfl rfl rfl (v_loadA [_, _, _] rfl Tryz.isAgg25 Tryz.sizeOf25 (H.hp.get 3 rfl) rfl rfl) fun a h => ?_
    refine z_slice (enc := vL) ([z12_16] : List (V)) h H Tryz.underlying22 Tryz.sizeOf25 Tryz.zeroValue25 rfl (zl := [.int .i64 0, .int .i64 0, S []]) (by kernel_rfl) (plA_get 1 3) [_] [_, _, _] rfl rfl rfl rfl rfl fun a v19_20 Z w hsub X H r19_20 h => ?_
    have rp1 := rp1.sub hsub
    obtain ⟨c22, hS⟩ := ck hS
    obtain ⟨z20_23, ez20_23, hS⟩ := bv hS
    refine z_appendS (enc := vL) (out := s8.2) (data := [z12_16]) h H 2 rfl Tryz.underlying22 app25 rfl rfl rfl r19_20 (fun _ => rfl) (fun _ _ => rfl) c22 rfl fun a v20_21 w H h => ?_
    rw [← ez20_23] at H
    have H : HZ w0 _ _ [_, _, _, _] _ := H
    refine st1 h rfl rfl rfl (v_assign rfl) fun a h => ?_
    refine c_lnil ?_
    refine hN14 _ _ ?_
    have h := h.only [2, 4, 5, 8, 9, 10] (l' := [_, _, _, _, _, _]) rfl
    refine c_lregion ?_
    obtain ⟨z21_24, ez21_24, hS⟩ := bv hS
    refine st1 h rfl rfl rfl (vI ez21_24 (v_addw rfl rfl)) fun a h => ?_
    refine st1 h rfl rfl rfl (v_move rfl) fun a h => ?_
    refine c_lnil ?_
    exact hN9 _ _ _ (Nat.lt_succ_self _) ⟨_, (z21_24, z20_23), _, lpN en8 hS, (h.only [2, 4, 5, 8, 9, 10] (l' := [_, _, _, _, _, _]) rfl), (H.keepN 3 rfl), rp1⟩
   ·
    have hS := ifF ec19 hS
    refine c_skip ?_
    refine hN14 _ _ ?_
    refine c_lregion ?_
    obtain ⟨z21_25, ez21_25, hS⟩ := bv hS
    refine st1 h rfl rfl rfl (vI ez21_25 (v_addw rfl rfl)) fun a h => ?_
    refine st1 h rfl rfl rfl (v_move rfl) fun a h => ?_
    refine c_lnil ?_
    exact hN9 _ _ _ (Nat.lt_succ_self _) ⟨_, (z21_25, s8.2), _, lpN en8 hS, (h.only [2, 4, 5, 8, 9, 10] (l' := [_, _, _, _, _, _]) rfl), (H.keepN 3 rfl), rp1⟩
  ·
   have hS := ifF ec13 hS
   refine c_exit ?_
   refine hx0_12 _ _ ?_
   exact hN3 _ _ ⟨_, s8.2, _, hS, (h.only [4, 5] (l' := [_, _]) rfl), H⟩

theorem lists_Match_ok {x0 : V} {x1 : List (V)} {res : V} {w0 : World} (hS : lists_Match x0 x1 = some res) {xv1 : Value} (rp1 : RdZ (hz w0) xv1 3 vL x1) : Calls Tryz.prog 69 [.agg #[.int .i64 x0.k, .int .i64 x0.n, S x0.s], xv1].toArray w0 (Ret fun v w => v = .agg #[.int .i64 res.k, .int .i64 res.n, S res.s] ∧ Ext w0 w) := by
 refine enter Tryz.func69 rfl rfl rfl fun Q a h hret0 hnor => ?_
 obtain ⟨Zi, Z, H, rp1⟩ : ∃ Zi Z, HZ w0 Zi Z [] w0 ∧ RdZ Z xv1 3 vL x1 := ⟨_, _, HZ.start w0, rp1⟩
 have h := h.only [0, 1] (l' := [_, _]) rfl
 unfold lists_Match at hS
 refine c_region fun K hK => ?_
 refine z_box h H rfl [_, _, _] rfl rfl fun a p2_1 w X H h => ?_
 have H : HZ w0 _ _ [_] _ := H
 refine z_alloc h H Tryz.zeroValue25 [_, _, _] rfl rfl fun a p4_2 w X H h => ?_
 have H : HZ w0 _ _ [_, _] _ := H
 refine c_nil hK ?_
 obtain ⟨J4, eJ4, hS⟩ := bv hS
 refine c_seq (fun a w => ∃ (Z : FZ) (s4 : Int × Int × (List UInt8)), J4 s4 = some res ∧ Fr 25 [(4, .pointer (some ⟨p4_2, 0, none⟩))] a ∧ HZ w0 Zi Z [.blk p2_1 (Cel [.int .i64 x0.k, .int .i64 x0.n, S x0.s] 25), .blk p4_2 (Cel [.int .i64 s4.1, .int .i64 s4.2.1, S s4.2.2] 25)] w) ?_ fun Q3 hN3 hO3 => ?_
 ·
  rintro a w ⟨Z, s4, hS, h, H⟩
  subst eJ4
  refine c_region fun K hK => ?_
  obtain ⟨y24_5, hy24_5, hS⟩ := bo hS
  refine st2v (T := Ext) (V := .agg #[.int .i64 y24_5.k, .int .i64 y24_5.n, S y24_5.s]) h rfl rfl rfl (d_call [_] rfl Tryz.call13 (value_Fail_ok (x0 := (6 : Int)) hy24_5)) fun w X a h => ?_
  have H := H.ext X
  refine z_store h H 1 rfl rfl rfl Tryz.sizeOf25 [_, _, _] rfl rfl rfl (by simp) [_, _, _] rfl (hl' := [_, _]) rfl fun w H => ?_
  refine c_nil hK ?_
  obtain rfl := so hS
  refine c_ret (hret0 _ _ (out1 h rfl ⟨_, rfl, run_loadVar_agg (vs := [_, _, _]) Tryz.isAgg25 Tryz.sizeOf25 (H.hp.get 1 rfl) rfl rfl⟩ ?_))
  exact ⟨rfl, H.out⟩
 ·
  have hret3 := hO3.ret hret0
  refine c_region fun K hK => ?_
  refine st1 h rfl rfl rfl (v_move rfl) fun a h => ?_
  refine st1 h rfl rfl rfl (v_len Tryz.underlying22 rfl (rp1.at H.zin)) fun a h => ?_
  refine st1 h rfl rfl rfl (v_move rfl) fun a h => ?_
  refine c_nil hK ?_
  refine c_lblock fun Q6 hN6 hx0_6 hO6 => ?_
  have hret6 := hO6.ret hret3
  obtain ⟨B7, eB7, hS⟩ := bv hS
  refine c_loopN (fun mu_ a w => ∃ (Z : FZ) (s7 : Int × Int × Int × (List UInt8)), loopF B7 mu_ s7 = some res ∧ Fr 25 [(2, .pointer (some ⟨p2_1, 0, none⟩)), (4, .pointer (some ⟨p4_2, 0, none⟩)), (7, xv1), (8, .int .i64 (x1.length : Int)), (9, .int .i64 s7.1)] a ∧ HZ w0 Zi Z [.blk p2_1 (Cel [.int .i64 x0.k, .int .i64 x0.n, S x0.s] 25), .blk p4_2 (Cel [.int .i64 s7.2.1, .int .i64 s7.2.2.1, S s7.2.2.2] 25)] w ∧ RdZ Z xv1 3 vL x1) KK ⟨_, (0, 0, 0, []), hS, (h.only [2, 4, 7, 8, 9] (l' := [_, _, _, _, _]) rfl), H, rp1⟩ ?_
  rintro mu_ a w ⟨Z, s7, hS, h, H, rp1⟩ Q8 hN8 hO8
  obtain ⟨mu_, rfl, n7, en7, hS⟩ := lpX eB7 hS
  have hret8 := hO8.ret hret6
  have hx0_8 := hO8.exit (i := 0) rfl hx0_6
  refine c_region fun K hK => ?_
  obtain ⟨z10_9, ez10_9, hS⟩ := bv hS
  refine st1 h rfl rfl rfl (vB ez10_9 (v_lt rfl rfl)) fun a h => ?_
  refine c_nil hK ?_
  refine c_seq _ (fun a w c => c) fun Q10 hN10 hO10 => ?_
  have hret10 := hO10.ret hret8
  have hx0_10 := hO10.exit (i := 0) rfl hx0_8
  refine c_cond h rfl (fun ec11 => ?_) (fun ec11 => ?_)
  ·
   have hS := ifT ec11 hS
   refine c_skip ?_
   refine hN10 _ _ ?_
   refine c_block _ (fun a w c => c) fun Q12 hN12 hx1_12 hO12 => ?_
   have hret12 := hO12.ret hret8
   have hx0_12 := hO12.exit (i := 0) rfl hx0_8
   refine c_region fun K hK => ?_
   refine st1 h rfl rfl rfl (v_move rfl) fun a h => ?_
   obtain ⟨c13, hS⟩ := ck hS
   obtain ⟨z12_14, ez12_14, hS⟩ := bv hS
   refine st_idx h Tryz.underlying22 Tryz.sizeOf25 rfl rfl (rp1.at H.zin) (fun _ => rfl) z12_14 c13.1 (by rw [ez12_14]; exact gel_some c13) rfl fun a v12 A12 h => ?_
   refine st1 h rfl rfl rfl (v_loadAtA [_, _, _] rfl A12 Tryz.isAgg25 Tryz.sizeOf25 rfl rfl) fun a h => ?_
   refine z_alloc h H Tryz.zeroValue25 [_, _, _] rfl rfl fun a p6_15 w X H h => ?_
   have A12 := At.ext A12 X
   have H : HZ w0 _ _ [_, _, _] _ := H
   refine st1 h rfl rfl rfl (v_assign rfl) fun a h => ?_
   refine z_store h H 2 rfl rfl rfl Tryz.sizeOf25 [_, _, _] rfl rfl rfl (by simp) [_, _, _] rfl (hl' := [_, _, _]) rfl fun w H => ?_
   refine c_nil hK ?_
   refine c_region fun K hK => ?_
   refine st1 h rfl rfl rfl (v_loadA [_, _, _] rfl Tryz.isAgg25 Tryz.sizeOf25 (H.hp.get 2 rfl) rfl rfl) fun a h => ?_
   refine st1 h rfl rfl rfl (v_loadA [_, _, _] rfl Tryz.isAgg25 Tryz.sizeOf25 (H.hp.get 0 rfl) rfl rfl) fun a h => ?_
   obtain ⟨y16_16, hy16_16, hS⟩ := bo hS
   refine st2v (T := Ext) (V := .bool y16_16) h rfl rfl rfl (d_call [_, _] rfl Tryz.call93 (lists_equal_ok (x0 := z12_14) (x1 := x0) hy16_16)) fun w X a h => ?_
   have H := H.ext X
   refine c_nil hK ?_
   have h := h.only [2, 4, 5, 7, 8, 9, 16] (l' := [_, _, _, _, _, _, _]) rfl
   refine c_cond h rfl (fun ec17 => ?_) (fun ec17 => ?_)
   ·
    have hS := ifT ec17 hS
    refine c_region fun K hK => ?_
    refine st1 h rfl rfl rfl (v_move rfl) fun a h => ?_
    obtain ⟨z18_18, ez18_18, hS⟩ := bv hS
    refine st1 h rfl rfl rfl (vI ez18_18 (v_addw rfl rfl)) fun a h => ?_
    obtain ⟨y19_19, hy19_19, hS⟩ := bo hS
    refine st2v (T := Ext) (V := .tuple #[.int .i64 y19_19.1, .bool y19_19.2]) h rfl rfl rfl (d_call [_] rfl Tryz.call43 (num_Of_ok (x0 := z18_18) hy19_19)) fun w X a h => ?_
    have H := H.ext X
    refine st1 h rfl rfl rfl (v_extract rfl rfl) fun a h => ?_
    refine st1 h rfl rfl rfl (v_extract rfl rfl) fun a h => ?_
    obtain ⟨y22_20, hy22_20, hS⟩ := bo hS
    refine st2v (T := Ext) (V := .agg #[.int .i64 y22_20.k, .int .i64 y22_20.n, S y22_20.s]) h rfl rfl rfl (d_call [_, _] rfl Tryz.call35 (value_Made_ok (x0 := y19_19.1) (x1 := y19_19.2) hy22_20)) fun w X a h => ?_
    have H := H.ext X
    refine z_store h H 1 rfl rfl rfl Tryz.sizeOf25 [_, _, _] rfl rfl rfl (by simp) [_, _, _] rfl (hl' := [_, _, _]) rfl fun w H => ?_
    refine c_nil hK ?_
    have h := h.only [4] (l' := [_]) rfl
    obtain rfl := so hS
    refine c_ret (hret12 _ _ (out1 h rfl ⟨_, rfl, run_loadVar_agg (vs := [_, _, _]) Tryz.isAgg25 Tryz.sizeOf25 (H.hp.get 1 rfl) rfl rfl⟩ ?_))
    exact ⟨rfl, H.out⟩
   ·
    have hS := ifF ec17 hS
    refine c_skip ?_
    refine hN12 _ _ ?_
    refine c_lregion ?_
    obtain ⟨z23_21, ez23_21, hS⟩ := bv hS
    refine st1 h rfl rfl rfl (vI ez23_21 (v_addw rfl rfl)) fun a h => ?_
    refine st1 h rfl rfl rfl (v_move rfl) fun a h => ?_
    refine c_lnil ?_
    exact hN8 _ _ _ (Nat.lt_succ_self _) ⟨_, (z23_21, s7.2.1, s7.2.2.1, s7.2.2.2), lpN en7 hS, (h.only [2, 4, 7, 8, 9] (l' := [_, _, _, _, _]) rfl), (H.keepN 2 rfl), rp1⟩
  ·
   have hS := ifF ec11 hS
   refine c_exit ?_
   refine hx0_10 _ _ ?_
   exact hN3 _ _ ⟨_, (s7.2.1, s7.2.2.1, s7.2.2.2), hS, (h.only [4] (l' := [_]) rfl), H⟩

theorem lists_Index_ok {x0 : Int} {x1 : Int} {x2 : Int} {x3 : List (V)} {res : V} {w0 : World} (hS : lists_Index x0 x1 x2 x3 = some res) {xv3 : Value} (rp3 : RdZ (hz w0) xv3 3 vL x3) : Calls Tryz.prog 70 [.int .i64 x0, .int .i64 x1, .int .i64 x2, xv3].toArray w0 (Ret fun v w => v = .agg #[.int .i64 res.k, .int .i64 res.n, S res.s] ∧ Ext w0 w) := by
 refine enter Tryz.func70 rfl rfl rfl fun Q a h hret0 hnor => ?_
 obtain ⟨Zi, Z, H, rp3⟩ : ∃ Zi Z, HZ w0 Zi Z [] w0 ∧ RdZ Z xv3 3 vL x3 := ⟨_, _, HZ.start w0, rp3⟩
 have h := h.only [0, 1, 2, 3] (l' := [_, _, _, _]) rfl
 unfold lists_Index at hS
 refine c_region fun K hK => ?_
 refine z_alloc h H Tryz.zeroValue25 [_, _, _] rfl rfl fun a p8_1 w X H h => ?_
 have H : HZ w0 _ _ [_] _ := H
 refine c_nil hK ?_
 refine c_seq _ (fun a w c => c) fun Q2 hN2 hO2 => ?_
 have hret2 := hO2.ret hret0
 refine c_region fun K hK => ?_
 refine st1 h rfl rfl rfl (v_move rfl) fun a h => ?_
 obtain ⟨z10_3, ez10_3, hS⟩ := bv hS
 refine st1 h rfl rfl rfl (vB ez10_3 (v_lt rfl rfl)) fun a h => ?_
 refine st1 h rfl rfl rfl (v_move rfl) fun a h => ?_
 refine st_g h rfl rfl (gF rfl) rfl rfl (fun e0 => v_move rfl) fun a h => ?_
 obtain ⟨z13_4, ez13_4, hS⟩ := bv hS
 refine st_g h rfl rfl (gF rfl) rfl rfl (fun e0 => vB ez13_4 (v_lt (eg e0 rfl) rfl)) fun a h => ?_
 obtain ⟨z14_5, ez14_5, hS⟩ := bv hS
 refine st1 h rfl rfl rfl (vB ez14_5 (v_or rfl rfl)) fun a h => ?_
 refine st1 h rfl rfl rfl (v_move rfl) fun a h => ?_
 refine st_g h rfl rfl (gF rfl) rfl rfl (fun e0 => v_move rfl) fun a h => ?_
 obtain ⟨z17_6, ez17_6, hS⟩ := bv hS
 refine st_g h rfl rfl (gF rfl) rfl rfl (fun e0 => vB ez17_6 (v_lt (eg e0 rfl) rfl)) fun a h => ?_
 obtain ⟨z18_7, ez18_7, hS⟩ := bv hS
 refine st1 h rfl rfl rfl (vB ez18_7 (v_or rfl rfl)) fun a h => ?_
 refine st1 h rfl rfl rfl (v_move rfl) fun a h => ?_
 refine st_g h rfl rfl (gF rfl) rfl rfl (fun e0 => v_move rfl) fun a h => ?_
 refine st_g h rfl rfl (gF rfl) rfl rfl (fun e0 => v_move rfl) fun a h => ?_
 obtain ⟨z22_8, ez22_8, hS⟩ := bv hS
 refine st_g h rfl rfl (gF rfl) rfl rfl (fun e0 => vB ez22_8 (v_gt (eg e0 rfl) (eg e0 rfl))) fun a h => ?_
 obtain ⟨z23_9, ez23_9, hS⟩ := bv hS
 refine st1 h rfl rfl rfl (vB ez23_9 (v_or rfl rfl)) fun a h => ?_
 refine st1 h rfl rfl rfl (v_move rfl) fun a h => ?_
 refine st_g h rfl rfl (gF rfl) rfl rfl (fun e0 => v_move rfl) fun a h => ?_
 refine st_g h rfl rfl (gF rfl) rfl rfl (fun e0 => v_move rfl) fun a h => ?_
 refine st_g h rfl rfl (gF rfl) rfl rfl (fun e0 => v_len Tryz.underlying22 (eg e0 rfl) (rp3.at H.zin)) fun a h => ?_
 refine st_g h rfl rfl (gF rfl) rfl rfl (fun e0 => v_move rfl) fun a h => ?_
 obtain ⟨c10, hS⟩ := ck hS
 obtain ⟨z29_11, ez29_11, hS⟩ := bv hS
 refine st_g h rfl rfl (gF rfl) rfl rfl (fun e0 => vI ez29_11 (v_quow (eg e0 rfl) (eg e0 rfl) (c10 e0))) fun a h => ?_
 obtain ⟨z30_12, ez30_12, hS⟩ := bv hS
 refine st_g h rfl rfl (gF rfl) rfl rfl (fun e0 => vB ez30_12 (v_gt (eg e0 rfl) (eg e0 rfl))) fun a h => ?_
 obtain ⟨z31_13, ez31_13, hS⟩ := bv hS
 refine st1 h rfl rfl rfl (vB ez31_13 (v_or rfl rfl)) fun a h => ?_
 refine c_nil hK ?_
 have h := h.only [0, 1, 2, 3, 8, 31] (l' := [_, _, _, _, _, _]) rfl
 refine c_cond h rfl (fun ec14 => ?_) (fun ec14 => ?_)
 ·
  have hS := ifT ec14 hS
  refine c_region fun K hK => ?_
  obtain ⟨y32_15, hy32_15, hS⟩ := bo hS
  refine st2v (T := Ext) (V := .agg #[.int .i64 y32_15.k, .int .i64 y32_15.n, S y32_15.s]) h rfl rfl rfl (d_call [_] rfl Tryz.call13 (value_Fail_ok (x0 := (3 : Int)) hy32_15)) fun w X a h => ?_
  have H := H.ext X
  refine z_store h H 0 rfl rfl rfl Tryz.sizeOf25 [_, _, _] rfl rfl rfl (by simp) [_, _, _] rfl (hl' := [_]) rfl fun w H => ?_
  refine c_nil hK ?_
  have h := h.only [8] (l' := [_]) rfl
  obtain rfl := so hS
  refine c_ret (hret2 _ _ (out1 h rfl ⟨_, rfl, run_loadVar_agg (vs := [_, _, _]) Tryz.isAgg25 Tryz.sizeOf25 (H.hp.get 0 rfl) rfl rfl⟩ ?_))
  exact ⟨rfl, H.out⟩
 ·
  have hS := ifF ec14 hS
  refine c_skip ?_
  refine hN2 _ _ ?_
  refine c_region fun K hK => ?_
  refine st1 h rfl rfl rfl (v_move rfl) fun a h => ?_
  refine st1 h rfl rfl rfl (v_move rfl) fun a h => ?_
  obtain ⟨z35_16, ez35_16, hS⟩ := bv hS
  refine st1 h rfl rfl rfl (vI ez35_16 (v_subw rfl rfl)) fun a h => ?_
  refine st1 h rfl rfl rfl (v_move rfl) fun a h => ?_
  obtain ⟨z37_17, ez37_17, hS⟩ := bv hS
  refine st1 h rfl rfl rfl (vI ez37_17 (v_mulw rfl rfl)) fun a h => ?_
  refine st1 h rfl rfl rfl (v_move rfl) fun a h => ?_
  obtain ⟨z39_18, ez39_18, hS⟩ := bv hS
  refine st1 h rfl rfl rfl (vI ez39_18 (v_subw rfl rfl)) fun a h => ?_
  obtain ⟨z40_19, ez40_19, hS⟩ := bv hS
  refine st1 h rfl rfl rfl (vI ez40_19 (v_addw rfl rfl)) fun a h => ?_
  obtain ⟨c20, hS⟩ := ck hS
  obtain ⟨z41_21, ez41_21, hS⟩ := bv hS
  refine st_idx h Tryz.underlying22 Tryz.sizeOf25 rfl rfl (rp3.at H.zin) (fun _ => rfl) z41_21 c20.1 (by rw [ez41_21]; exact gel_some c20) rfl fun a v41 A41 h => ?_
  refine st1 h rfl rfl rfl (v_loadAtA [_, _, _] rfl A41 Tryz.isAgg25 Tryz.sizeOf25 rfl rfl) fun a h => ?_
  refine z_store h H 0 rfl rfl rfl Tryz.sizeOf25 [_, _, _] rfl rfl rfl (by simp) [_, _, _] rfl (hl' := [_]) rfl fun w H => ?_
  refine c_nil hK ?_
  have h := h.only [8] (l' := [_]) rfl
  obtain rfl := so hS
  refine c_ret (hret0 _ _ (out1 h rfl ⟨_, rfl, run_loadVar_agg (vs := [_, _, _]) Tryz.isAgg25 Tryz.sizeOf25 (H.hp.get 0 rfl) rfl rfl⟩ ?_))
  exact ⟨rfl, H.out⟩

theorem lists_VLookup_ok {x0 : V} {x1 : Int} {x2 : Int} {x3 : List (V)} {res : V} {w0 : World} (hS : lists_VLookup x0 x1 x2 x3 = some res) {xv3 : Value} (rp3 : RdZ (hz w0) xv3 3 vL x3) : Calls Tryz.prog 71 [.agg #[.int .i64 x0.k, .int .i64 x0.n, S x0.s], .int .i64 x1, .int .i64 x2, xv3].toArray w0 (Ret fun v w => v = .agg #[.int .i64 res.k, .int .i64 res.n, S res.s] ∧ Ext w0 w) := by
 refine enter Tryz.func71 rfl rfl rfl fun Q a h hret0 hnor => ?_
 obtain ⟨Zi, Z, H, rp3⟩ : ∃ Zi Z, HZ w0 Zi Z [] w0 ∧ RdZ Z xv3 3 vL x3 := ⟨_, _, HZ.start w0, rp3⟩
 have h := h.only [0, 1, 2, 3] (l' := [_, _, _, _]) rfl
 unfold lists_VLookup at hS
 refine c_region fun K hK => ?_
 refine z_box h H rfl [_, _, _] rfl rfl fun a p4_1 w X H h => ?_
 have H : HZ w0 _ _ [_] _ := H
 refine z_alloc h H Tryz.zeroValue25 [_, _, _] rfl rfl fun a p8_2 w X H h => ?_
 have H : HZ w0 _ _ [_, _] _ := H
 refine c_nil hK ?_
 refine c_seq _ (fun a w c => c) fun Q3 hN3 hO3 => ?_
 have hret3 := hO3.ret hret0
 refine c_region fun K hK => ?_
 refine st1 h rfl rfl rfl (v_move rfl) fun a h => ?_
 obtain ⟨z11_4, ez11_4, hS⟩ := bv hS
 refine st1 h rfl rfl rfl (vB ez11_4 (v_lt rfl rfl)) fun a h => ?_
 refine st1 h rfl rfl rfl (v_move rfl) fun a h => ?_
 refine st_g h rfl rfl (gF rfl) rfl rfl (fun e0 => v_move rfl) fun a h => ?_
 obtain ⟨z14_5, ez14_5, hS⟩ := bv hS
 refine st_g h rfl rfl (gF rfl) rfl rfl (fun e0 => vB ez14_5 (v_lt (eg e0 rfl) rfl)) fun a h => ?_
 obtain ⟨z15_6, ez15_6, hS⟩ := bv hS
 refine st1 h rfl rfl rfl (vB ez15_6 (v_or rfl rfl)) fun a h => ?_
 refine st1 h rfl rfl rfl (v_move rfl) fun a h => ?_
 refine st_g h rfl rfl (gF rfl) rfl rfl (fun e0 => v_move rfl) fun a h => ?_
 refine st_g h rfl rfl (gF rfl) rfl rfl (fun e0 => v_move rfl) fun a h => ?_
 obtain ⟨z19_7, ez19_7, hS⟩ := bv hS
 refine st_g h rfl rfl (gF rfl) rfl rfl (fun e0 => vB ez19_7 (v_gt (eg e0 rfl) (eg e0 rfl))) fun a h => ?_
 obtain ⟨z20_8, ez20_8, hS⟩ := bv hS
 refine st1 h rfl rfl rfl (vB ez20_8 (v_or rfl rfl)) fun a h => ?_
 refine c_nil hK ?_
 have h := h.only [1, 2, 3, 4, 8, 20] (l' := [_, _, _, _, _, _]) rfl
 refine c_cond h rfl (fun ec9 => ?_) (fun ec9 => ?_)
 ·
  have hS := ifT ec9 hS
  refine c_region fun K hK => ?_
  obtain ⟨y21_10, hy21_10, hS⟩ := bo hS
  refine st2v (T := Ext) (V := .agg #[.int .i64 y21_10.k, .int .i64 y21_10.n, S y21_10.s]) h rfl rfl rfl (d_call [_] rfl Tryz.call13 (value_Fail_ok (x0 := (3 : Int)) hy21_10)) fun w X a h => ?_
  have H := H.ext X
  refine z_store h H 1 rfl rfl rfl Tryz.sizeOf25 [_, _, _] rfl rfl rfl (by simp) [_, _, _] rfl (hl' := [_, _]) rfl fun w H => ?_
  refine c_nil hK ?_
  have h := h.only [8] (l' := [_]) rfl
  obtain rfl := so hS
  refine c_ret (hret3 _ _ (out1 h rfl ⟨_, rfl, run_loadVar_agg (vs := [_, _, _]) Tryz.isAgg25 Tryz.sizeOf25 (H.hp.get 1 rfl) rfl rfl⟩ ?_))
  exact ⟨rfl, H.out⟩
 ·
  have hS := ifF ec9 hS
  refine c_skip ?_
  refine hN3 _ _ ?_
  obtain ⟨J12, eJ12, hS⟩ := bv hS
  refine c_seq (fun a w => ∃ (Z : FZ) (s12 : Int × Int × (List UInt8)), J12 s12 = some res ∧ Fr 45 [(8, .pointer (some ⟨p8_2, 0, none⟩))] a ∧ HZ w0 Zi Z [.blk p4_1 (Cel [.int .i64 x0.k, .int .i64 x0.n, S x0.s] 25), .blk p8_2 (Cel [.int .i64 s12.1, .int .i64 s12.2.1, S s12.2.2] 25)] w) ?_ fun Q11 hN11 hO11 => ?_
  ·
   rintro a w ⟨Z, s12, hS, h, H⟩
   subst eJ12
   refine c_region fun K hK => ?_
   obtain ⟨y44_13, hy44_13, hS⟩ := bo hS
   refine st2v (T := Ext) (V := .agg #[.int .i64 y44_13.k, .int .i64 y44_13.n, S y44_13.s]) h rfl rfl rfl (d_call [_] rfl Tryz.call13 (value_Fail_ok (x0 := (6 : Int)) hy44_13)) fun w X a h => ?_
   have H := H.ext X
   refine z_store h H 1 rfl rfl rfl Tryz.sizeOf25 [_, _, _] rfl rfl rfl (by simp) [_, _, _] rfl (hl' := [_, _]) rfl fun w H => ?_
   refine c_nil hK ?_
   obtain rfl := so hS
   refine c_ret (hret0 _ _ (out1 h rfl ⟨_, rfl, run_loadVar_agg (vs := [_, _, _]) Tryz.isAgg25 Tryz.sizeOf25 (H.hp.get 1 rfl) rfl rfl⟩ ?_))
   exact ⟨rfl, H.out⟩
  ·
   have hret11 := hO11.ret hret0
   refine c_region fun K hK => ?_
   refine st1 h rfl rfl rfl (v_assign rfl) fun a h => ?_
   refine c_nil hK ?_
   refine c_lblock fun Q14 hN14 hx0_14 hO14 => ?_
   have hret14 := hO14.ret hret11
   obtain ⟨B15, eB15, hS⟩ := bv hS
   refine c_loopN (fun mu_ a w => ∃ (Z : FZ) (s15 : Int × Int × Int × (List UInt8)), loopF B15 mu_ s15 = some res ∧ Fr 45 [(1, .int .i64 x1), (2, .int .i64 x2), (3, xv3), (4, .pointer (some ⟨p4_1, 0, none⟩)), (8, .pointer (some ⟨p8_2, 0, none⟩)), (9, .int .i64 s15.1)] a ∧ HZ w0 Zi Z [.blk p4_1 (Cel [.int .i64 x0.k, .int .i64 x0.n, S x0.s] 25), .blk p8_2 (Cel [.int .i64 s15.2.1, .int .i64 s15.2.2.1, S s15.2.2.2] 25)] w ∧ RdZ Z xv3 3 vL x3) KK ⟨_, (0, 0, 0, []), hS, (h.only [1, 2, 3, 4, 8, 9] (l' := [_, _, _, _, _, _]) rfl), H, rp3⟩ ?_
   rintro mu_ a w ⟨Z, s15, hS, h, H, rp3⟩ Q16 hN16 hO16
   obtain ⟨mu_, rfl, n15, en15, hS⟩ := lpX eB15 hS
   have hret16 := hO16.ret hret14
   have hx0_16 := hO16.exit (i := 0) rfl hx0_14
   refine c_seq _ (fun a w c => c) fun Q17 hN17 hO17 => ?_
   have hret17 := hO17.ret hret16
   have hx0_17 := hO17.exit (i := 0) rfl hx0_16
   refine c_region fun K hK => ?_
   refine st1 h rfl rfl rfl (v_move rfl) fun a h => ?_
   refine st1 h rfl rfl rfl (v_move rfl) fun a h => ?_
   obtain ⟨z24_18, ez24_18, hS⟩ := bv hS
   refine st1 h rfl rfl rfl (vI ez24_18 (v_addw rfl rfl)) fun a h => ?_
   refine st1 h rfl rfl rfl (v_move rfl) fun a h => ?_
   refine st1 h rfl rfl rfl (v_len Tryz.underlying22 rfl (rp3.at H.zin)) fun a h => ?_
   obtain ⟨z27_19, ez27_19, hS⟩ := bv hS
   refine st1 h rfl rfl rfl (vB ez27_19 (v_le rfl rfl)) fun a h => ?_
   refine c_nil hK ?_
   have h := h.only [1, 2, 3, 4, 8, 9, 27] (l' := [_, _, _, _, _, _, _]) rfl
   refine c_cond h rfl (fun ec20 => ?_) (fun ec20 => ?_)
   ·
    have hS := ifT ec20 hS
    refine c_skip ?_
    refine hN17 _ _ ?_
    refine c_block _ (fun a w c => c) fun Q21 hN21 hx1_21 hO21 => ?_
    have hret21 := hO21.ret hret16
    have hx0_21 := hO21.exit (i := 0) rfl hx0_16
    refine c_flow h (by kernel_rfl) (by kernel_rfl) ?_
    refine f1 [3] rfl rfl rfl rfl (fun w X => v_move rfl) ?_
    refine f1 [9] rfl rfl rfl rfl (fun w X => v_move rfl) ?_
    obtain ⟨c22, hS⟩ := ck hS
    obtain ⟨z33_23, ez33_23, hS⟩ := bv hS
    refine f_op [31, 32] rfl rfl rfl rfl false (.rel (fun w' v' => At w' v' vL z33_23 0)) at_stab (fun w X => ?_) ?_
    ·
     skip
     exact have H := H.ext X; d_idx Tryz.underlying22 Tryz.sizeOf25 rfl rfl (rp3.at H.zin) (fun _ => rfl) z33_23 c22.1 (by rw [ez33_23]; exact gel_some c22)
    refine f_op [33] rfl rfl rfl rfl false (.eq (.agg #[.int .i64 z33_23.k, .int .i64 z33_23.n, S z33_23.s])) trivial (fun w X => ?_) ?_
    ·
     intro v33 h33
     exact (v_loadAtA [_, _, _] rfl h33 Tryz.isAgg25 Tryz.sizeOf25 rfl rfl).doesF
    refine f1 [4] rfl rfl rfl rfl (fun w X => have H := H.ext X; v_loadA [_, _, _] rfl Tryz.isAgg25 Tryz.sizeOf25 (H.hp.get 0 rfl) rfl rfl) ?_
    obtain ⟨y36_24, hy36_24, hS⟩ := bo hS
    refine f2 (V := .bool y36_24) [34, 35] rfl rfl rfl rfl (fun w X => d_call [_, _] rfl Tryz.call93 (lists_equal_ok (x0 := z33_23) (x1 := x0) hy36_24)) ?_
    refine fn_ ?_
    intro a w X hR hA
    have h := hR.out [1, 2, 3, 4, 8, 9, 36]
    have h : Fr 45 [(36, _), (9, _), (8, _), (4, _), (3, _), (2, _), (1, _)] a := h
    have H := H.ext X
    refine c_cond h rfl (fun ec25 => ?_) (fun ec25 => ?_)
    ·
     have hS := ifT ec25 hS
     refine c_region fun K hK => ?_
     refine st1 h rfl rfl rfl (v_move rfl) fun a h => ?_
     refine st1 h rfl rfl rfl (v_move rfl) fun a h => ?_
     refine st1 h rfl rfl rfl (v_move rfl) fun a h => ?_
     obtain ⟨z40_26, ez40_26, hS⟩ := bv hS
     refine st1 h rfl rfl rfl (vI ez40_26 (v_addw rfl rfl)) fun a h => ?_
     obtain ⟨z41_27, ez41_27, hS⟩ := bv hS
     refine st1 h rfl rfl rfl (vI ez41_27 (v_subw rfl rfl)) fun a h => ?_
     obtain ⟨c28, hS⟩ := ck hS
     obtain ⟨z42_29, ez42_29, hS⟩ := bv hS
     refine st_idx h Tryz.underlying22 Tryz.sizeOf25 rfl rfl (rp3.at H.zin) (fun _ => rfl) z42_29 c28.1 (by rw [ez42_29]; exact gel_some c28) rfl fun a v42 A42 h => ?_
     refine st1 h rfl rfl rfl (v_loadAtA [_, _, _] rfl A42 Tryz.isAgg25 Tryz.sizeOf25 rfl rfl) fun a h => ?_
     refine z_store h H 1 rfl rfl rfl Tryz.sizeOf25 [_, _, _] rfl rfl rfl (by simp) [_, _, _] rfl (hl' := [_, _]) rfl fun w H => ?_
     refine c_nil hK ?_
     have h := h.only [8] (l' := [_]) rfl
     obtain rfl := so hS
     refine c_ret (hret21 _ _ (out1 h rfl ⟨_, rfl, run_loadVar_agg (vs := [_, _, _]) Tryz.isAgg25 Tryz.sizeOf25 (H.hp.get 1 rfl) rfl rfl⟩ ?_))
     exact ⟨rfl, H.out⟩
    ·
     have hS := ifF ec25 hS
     refine c_skip ?_
     refine hN21 _ _ ?_
     refine c_lregion ?_
     refine st1 h rfl rfl rfl (v_move rfl) fun a h => ?_
     refine st1 h rfl rfl rfl (v_move rfl) fun a h => ?_
     obtain ⟨z30_30, ez30_30, hS⟩ := bv hS
     refine st1 h rfl rfl rfl (vI ez30_30 (v_addw rfl rfl)) fun a h => ?_
     refine st1 h rfl rfl rfl (v_assign rfl) fun a h => ?_
     refine c_lnil ?_
     exact hN16 _ _ _ (Nat.lt_succ_self _) ⟨_, (z30_30, s15.2.1, s15.2.2.1, s15.2.2.2), lpN en15 hS, (h.only [1, 2, 3, 4, 8, 9] (l' := [_, _, _, _, _, _]) rfl), H, rp3⟩
   ·
    have hS := ifF ec20 hS
    refine c_exit ?_
    refine hx0_17 _ _ ?_
    exact hN11 _ _ ⟨_, (s15.2.1, s15.2.2.1, s15.2.2.2), hS, (h.only [8] (l' := [_]) rfl), H⟩

theorem texts_trimmed_ok {x0 : List UInt8} {res : (List UInt8)} {w0 : World} (hS : texts_trimmed x0 = some res) : Calls Tryz.prog 46 [S x0].toArray w0 (Ret fun v w => v = S res ∧ Ext w0 w) := by
 refine enter Tryz.func46 rfl rfl rfl fun Q a h hret0 hnor => ?_
 obtain ⟨Zi, Z, H⟩ : ∃ Zi Z, HZ w0 Zi Z [] w0 := ⟨_, _, HZ.start w0⟩
 have h := h.only [0] (l' := [_]) rfl
 unfold texts_trimmed at hS
 refine c_region fun K hK => ?_
 refine st1 h rfl rfl rfl (v_assign rfl) fun a h => ?_
 refine c_nil hK ?_
 refine c_region fun K hK => ?_
 refine st1 h rfl rfl rfl (v_assign rfl) fun a h => ?_
 refine c_nil hK ?_
 refine c_region fun K hK => ?_
 refine st1 h rfl rfl rfl (v_assign rfl) fun a h => ?_
 refine c_nil hK ?_
 obtain ⟨J2, eJ2, hS⟩ := bv hS
 refine c_seq (fun a w => ∃ (Z : FZ) (s2 : (List UInt8)), J2 s2 = some res ∧ Fr 29 [(3, S s2)] a ∧ HZ w0 Zi Z [] w) ?_ fun Q1 hN1 hO1 => ?_
 ·
  rintro a w ⟨Z, s2, hS, h, H⟩
  subst eJ2
  refine c_region fun K hK => ?_
  refine st1 h rfl rfl rfl (v_move rfl) fun a h => ?_
  refine st1 h rfl rfl rfl (v_assign rfl) fun a h => ?_
  refine c_nil hK ?_
  obtain rfl := so hS
  refine c_ret (hret0 _ _ (out1 h rfl rfl ?_))
  exact ⟨rfl, H.out⟩
 ·
  have hret1 := hO1.ret hret0
  refine c_region fun K hK => ?_
  refine st1 h rfl rfl rfl (v_move rfl) fun a h => ?_
  refine st1 h rfl rfl rfl (v_slen Tryz.underlying9 rfl) fun a h => ?_
  refine st1 h rfl rfl rfl (v_move rfl) fun a h => ?_
  refine c_nil hK ?_
  refine c_lblock fun Q3 hN3 hx0_3 hO3 => ?_
  have hret3 := hO3.ret hret1
  obtain ⟨B4, eB4, hS⟩ := bv hS
  refine c_loopN (fun mu_ a w => ∃ (Z : FZ) (s4 : (List UInt8) × Bool × Int), loopF B4 mu_ s4 = some res ∧ Fr 29 [(0, S x0), (3, S s4.1), (4, .bool s4.2.1), (7, .int .i64 (x0.length : Int)), (8, .int .i64 s4.2.2)] a ∧ HZ w0 Zi Z [] w) KK ⟨_, ([], false, 0), hS, (h.only [0, 3, 4, 7, 8] (l' := [_, _, _, _, _]) rfl), H⟩ ?_
  rintro mu_ a w ⟨Z, s4, hS, h, H⟩ Q5 hN5 hO5
  obtain ⟨mu_, rfl, n4, en4, hS⟩ := lpX eB4 hS
  have hret5 := hO5.ret hret3
  have hx0_5 := hO5.exit (i := 0) rfl hx0_3
  refine c_region fun K hK => ?_
  obtain ⟨z9_6, ez9_6, hS⟩ := bv hS
  refine st1 h rfl rfl rfl (vB ez9_6 (v_lt rfl rfl)) fun a h => ?_
  refine c_nil hK ?_
  refine c_seq _ (fun a w c => c) fun Q7 hN7 hO7 => ?_
  have hret7 := hO7.ret hret5
  have hx0_7 := hO7.exit (i := 0) rfl hx0_5
  refine c_cond h rfl (fun ec8 => ?_) (fun ec8 => ?_)
  ·
   have hS := ifT ec8 hS
   refine c_skip ?_
   refine hN7 _ _ ?_
   refine c_block _ (fun a w c => c) fun Q9 hN9 hx1_9 hO9 => ?_
   have hret9 := hO9.ret hret5
   have hx0_9 := hO9.exit (i := 0) rfl hx0_5
   refine c_region fun K hK => ?_
   refine st1 h rfl rfl rfl (v_move rfl) fun a h => ?_
   refine st1 h rfl rfl rfl (v_assign rfl) fun a h => ?_
   refine c_nil hK ?_
   refine c_seq _ (fun a w c => c) fun Q10 hN10 hO10 => ?_
   have hret10 := hO10.ret hret9
   have hx0_10 := hO10.exit (i := 0) rfl hx0_9
   have hx1_10 := hO10.exit (i := 1) rfl hx1_9
   refine c_region fun K hK => ?_
   refine st1 h rfl rfl rfl (v_move rfl) fun a h => ?_
   refine st1 h rfl rfl rfl (v_move rfl) fun a h => ?_
   obtain ⟨c11, hS⟩ := ck hS
   obtain ⟨z13_12, ez13_12, hS⟩ := bv hS
   refine st1 h rfl rfl rfl (vI ez13_12 (v_sidx Tryz.underlying9 rfl rfl c11)) fun a h => ?_
   obtain ⟨z14_13, ez14_13, hS⟩ := bv hS
   refine st1 h rfl rfl rfl (vB ez14_13 (v_eq rfl rfl)) fun a h => ?_
   refine c_nil hK ?_
   have h := h.only [0, 3, 4, 5, 7, 8, 14] (l' := [_, _, _, _, _, _, _]) rfl
   refine c_cond h rfl (fun ec14 => ?_) (fun ec14 => ?_)
   ·
    have hS := ifT ec14 hS
    refine c_region fun K hK => ?_
    refine st1 h rfl rfl rfl (v_move rfl) fun a h => ?_
    obtain ⟨z16_15, ez16_15, hS⟩ := bv hS
    refine st1 h rfl rfl rfl (vB ez16_15 (v_sne rfl rfl)) fun a h => ?_
    refine st1 h rfl rfl rfl (v_assign rfl) fun a h => ?_
    refine c_nil hK ?_
    have h := h.only [0, 3, 4, 7, 8] (l' := [_, _, _, _, _]) rfl
    refine c_exit ?_
    refine hx1_10 _ _ ?_
    refine c_lregion ?_
    obtain ⟨z27_16, ez27_16, hS⟩ := bv hS
    refine st1 h rfl rfl rfl (vI ez27_16 (v_addw rfl rfl)) fun a h => ?_
    refine st1 h rfl rfl rfl (v_move rfl) fun a h => ?_
    refine c_lnil ?_
    exact hN5 _ _ _ (Nat.lt_succ_self _) ⟨_, (s4.1, z16_15, z27_16), lpN en4 hS, (h.only [0, 3, 4, 7, 8] (l' := [_, _, _, _, _]) rfl), H⟩
   ·
    have hS := ifF ec14 hS
    refine c_skip ?_
    refine hN10 _ _ ?_
    obtain ⟨J18, eJ18, hS⟩ := bv hS
    refine c_seq (fun a w => ∃ (Z : FZ) (s18 : (List UInt8)), J18 s18 = some res ∧ Fr 29 [(0, S x0), (3, S s18), (5, .int .i64 s4.2.2), (7, .int .i64 (x0.length : Int)), (8, .int .i64 s4.2.2)] a ∧ HZ w0 Zi Z [] w) ?_ fun Q17 hN17 hO17 => ?_
    ·
     rintro a w ⟨Z, s18, hS, h, H⟩
     subst eJ18
     refine c_region fun K hK => ?_
     refine st1 h rfl rfl rfl (v_assign rfl) fun a h => ?_
     refine c_nil hK ?_
     refine c_lregion ?_
     refine st1 h rfl rfl rfl (v_move rfl) fun a h => ?_
     refine st1 h rfl rfl rfl (v_move rfl) fun a h => ?_
     refine st1 h rfl rfl rfl (v_move rfl) fun a h => ?_
     refine st1 h rfl rfl rfl (v_move rfl) fun a h => ?_
     obtain ⟨z24_19, ez24_19, hS⟩ := bv hS
     refine st1 h rfl rfl rfl (vI ez24_19 (v_addw rfl rfl)) fun a h => ?_
     obtain ⟨c20, hS⟩ := ck hS
     obtain ⟨z25_21, ez25_21, hS⟩ := bv hS
     refine st1 h rfl rfl rfl (vS ez25_21 (v_scut Tryz.underlying9 rfl rfl rfl c20)) fun a h => ?_
     obtain ⟨c22, hS⟩ := ck hS
     obtain ⟨z26_23, ez26_23, hS⟩ := bv hS
     refine st1 h rfl rfl rfl (vS ez26_23 (v_sadd rfl rfl c22)) fun a h => ?_
     refine st1 h rfl rfl rfl (v_assign rfl) fun a h => ?_
     refine c_lnil ?_
     refine hN9 _ _ ?_
     have h := h.only [0, 3, 4, 7, 8] (l' := [_, _, _, _, _]) rfl
     refine c_lregion ?_
     obtain ⟨z27_24, ez27_24, hS⟩ := bv hS
     refine st1 h rfl rfl rfl (vI ez27_24 (v_addw rfl rfl)) fun a h => ?_
     refine st1 h rfl rfl rfl (v_move rfl) fun a h => ?_
     refine c_lnil ?_
     exact hN5 _ _ _ (Nat.lt_succ_self _) ⟨_, (z26_23, false, z27_24), lpN en4 hS, (h.only [0, 3, 4, 7, 8] (l' := [_, _, _, _, _]) rfl), H⟩
    ·
     have hret17 := hO17.ret hret9
     have hx0_17 := hO17.exit (i := 0) rfl hx0_9
     have hx1_17 := hO17.exit (i := 1) rfl hx1_9
     refine c_region fun K hK => ?_
     refine st1 h rfl rfl rfl (v_move rfl) fun a h => ?_
     refine c_nil hK ?_
     refine c_cond h rfl (fun ec25 => ?_) (fun ec25 => ?_)
     ·
      have hS := ifT ec25 hS
      refine c_lregion ?_
      refine st1 h rfl rfl rfl (v_move rfl) fun a h => ?_
      obtain ⟨c26, hS⟩ := ck hS
      obtain ⟨z19_27, ez19_27, hS⟩ := bv hS
      refine st1 h rfl rfl rfl (vS ez19_27 (v_sadd rfl rfl c26)) fun a h => ?_
      refine st1 h rfl rfl rfl (v_assign rfl) fun a h => ?_
      refine c_lnil ?_
      exact hN17 _ _ ⟨_, z19_27, hS, (h.only [0, 3, 5, 7, 8] (l' := [_, _, _, _, _]) rfl), H⟩
     ·
      have hS := ifF ec25 hS
      refine c_skip ?_
      exact hN17 _ _ ⟨_, s4.1, hS, (h.only [0, 3, 5, 7, 8] (l' := [_, _, _, _, _]) rfl), H⟩
  ·
   have hS := ifF ec8 hS
   refine c_exit ?_
   refine hx0_7 _ _ ?_
   exact hN1 _ _ ⟨_, s4.1, hS, (h.only [3] (l' := [_]) rfl), H⟩

theorem texts_runes_ok {x0 : List UInt8} {res : Int} {w0 : World} (hS : texts_runes x0 = some res) : Calls Tryz.prog 44 [S x0].toArray w0 (Ret fun v w => v = .int .i64 res ∧ Ext w0 w) := by
 refine enter Tryz.func44 rfl rfl rfl fun Q a h hret0 hnor => ?_
 obtain ⟨Zi, Z, H⟩ : ∃ Zi Z, HZ w0 Zi Z [] w0 := ⟨_, _, HZ.start w0⟩
 have h := h.only [0] (l' := [_]) rfl
 unfold texts_runes at hS
 refine c_region fun K hK => ?_
 refine st1 h rfl rfl rfl (v_assign rfl) fun a h => ?_
 refine c_nil hK ?_
 refine c_region fun K hK => ?_
 refine st1 h rfl rfl rfl (v_assign rfl) fun a h => ?_
 refine c_nil hK ?_
 obtain ⟨J2, eJ2, hS⟩ := bv hS
 refine c_seq (fun a w => ∃ (Z : FZ) (s2 : Int), J2 s2 = some res ∧ Fr 11 [(3, .int .i64 s2)] a ∧ HZ w0 Zi Z [] w) ?_ fun Q1 hN1 hO1 => ?_
 ·
  rintro a w ⟨Z, s2, hS, h, H⟩
  subst eJ2
  refine c_region fun K hK => ?_
  refine st1 h rfl rfl rfl (v_move rfl) fun a h => ?_
  refine st1 h rfl rfl rfl (v_assign rfl) fun a h => ?_
  refine c_nil hK ?_
  obtain rfl := so hS
  refine c_ret (hret0 _ _ (out1 h rfl rfl ?_))
  exact ⟨rfl, H.out⟩
 ·
  have hret1 := hO1.ret hret0
  refine c_region fun K hK => ?_
  refine st1 h rfl rfl rfl (v_move rfl) fun a h => ?_
  refine z_range h H Tryz.underlying9 rfl rfl fun a p5_3 w X H h => ?_
  have H : HZ w0 _ _ [_] _ := H
  refine c_nil hK ?_
  refine c_lblock fun Q4 hN4 hx0_4 hO4 => ?_
  have hret4 := hO4.ret hret1
  obtain ⟨B5, eB5, hS⟩ := bv hS
  refine c_loopN (fun mu_ a w => ∃ (Z : FZ) (s5 : Int × Nat), loopF B5 mu_ s5 = some res ∧ Fr 11 [(3, .int .i64 s5.1), (5, .pointer (some ⟨p5_3, 0, none⟩))] a ∧ HZ w0 Zi Z [.blk p5_3 (.stringIter ⟨(x0 : List UInt8).toArray⟩ (s5.2))] w) KK ⟨_, (0, 0), hS, (h.only [3, 5] (l' := [_, _]) rfl), H⟩ ?_
  rintro mu_ a w ⟨Z, s5, hS, h, H⟩ Q6 hN6 hO6
  obtain ⟨mu_, rfl, n5, en5, hS⟩ := lpX eB5 hS
  have hret6 := hO6.ret hret4
  have hx0_6 := hO6.exit (i := 0) rfl hx0_4
  refine c_region fun K hK => ?_
  refine z_next h H 0 rfl rfl rfl (hl' := [_]) rfl fun a w H h => ?_
  obtain ⟨z7_7, ez7_7, hS⟩ := bv hS
  refine st1 h rfl rfl rfl (vB ez7_7 (v_next0 rfl)) fun a h => ?_
  refine c_nil hK ?_
  refine c_seq _ (fun a w c => c) fun Q8 hN8 hO8 => ?_
  have hret8 := hO8.ret hret6
  have hx0_8 := hO8.exit (i := 0) rfl hx0_6
  refine c_cond h rfl (fun ec9 => ?_) (fun ec9 => ?_)
  ·
   have hS := ifT ec9 hS
   refine c_skip ?_
   refine hN8 _ _ ?_
   refine c_lblock fun Q10 hN10 hx1_10 hO10 => ?_
   have hret10 := hO10.ret hret6
   have hx0_10 := hO10.exit (i := 0) rfl hx0_6
   refine c_lregion ?_
   refine st1 h rfl rfl rfl (v_move rfl) fun a h => ?_
   obtain ⟨z9_11, ez9_11, hS⟩ := bv hS
   refine st1 h rfl rfl rfl (vI ez9_11 (v_addw rfl rfl)) fun a h => ?_
   refine st1 h rfl rfl rfl (v_assign rfl) fun a h => ?_
   refine c_lnil ?_
   refine hN10 _ _ ?_
   exact hN6 _ _ _ (Nat.lt_succ_self _) ⟨_, (z9_11, nextP x0 s5.2), lpN en5 hS, (h.only [3, 5] (l' := [_, _]) rfl), H⟩
  ·
   have hS := ifF ec9 hS
   refine c_exit ?_
   refine hx0_8 _ _ ?_
   exact hN1 _ _ ⟨_, s5.1, hS, (h.only [3] (l' := [_]) rfl), (H.keepN 0 rfl)⟩

theorem texts_count_ok {x0 : Int} {x1 : List UInt8} {res : Int × Bool} {w0 : World} (hS : texts_count x0 x1 = some res) : Calls Tryz.prog 47 [.int .i64 x0, S x1].toArray w0 (Ret fun v w => v = .tuple #[.int .i64 res.1, .bool res.2] ∧ Ext w0 w) := by
 refine enter Tryz.func47 rfl rfl rfl fun Q a h hret0 hnor => ?_
 obtain ⟨Zi, Z, H⟩ : ∃ Zi Z, HZ w0 Zi Z [] w0 := ⟨_, _, HZ.start w0⟩
 have h := h.only [0, 1] (l' := [_, _]) rfl
 unfold texts_count at hS
 refine c_region fun K hK => ?_
 refine st1 h rfl rfl rfl (v_assign rfl) fun a h => ?_
 refine st1 h rfl rfl rfl (v_assign rfl) fun a h => ?_
 refine c_nil hK ?_
 refine c_region fun K hK => ?_
 refine st1 h rfl rfl rfl (v_move rfl) fun a h => ?_
 obtain ⟨z7_1, ez7_1, hS⟩ := bv hS
 refine st1 h rfl rfl rfl (vI ez7_1 (v_quow rfl rfl (by decide))) fun a h => ?_
 refine st1 h rfl rfl rfl (v_assign rfl) fun a h => ?_
 refine c_nil hK ?_
 have h := h.only [0, 1] (l' := [_, _]) rfl
 refine c_region fun K hK => ?_
 refine st1 h rfl rfl rfl (v_move rfl) fun a h => ?_
 obtain ⟨z9_2, ez9_2, hS⟩ := bv hS
 refine st1 h rfl rfl rfl (vI ez9_2 (v_max Tryz.underlying2 rfl rfl)) fun a h => ?_
 refine st1 h rfl rfl rfl (v_move rfl) fun a h => ?_
 refine st1 h rfl rfl rfl (v_slen Tryz.underlying9 rfl) fun a h => ?_
 obtain ⟨z12_3, ez12_3, hS⟩ := bv hS
 refine st1 h rfl rfl rfl (vI ez12_3 (v_min Tryz.underlying2 rfl rfl)) fun a h => ?_
 refine st1 h rfl rfl rfl (v_move rfl) fun a h => ?_
 obtain ⟨z14_4, ez14_4, hS⟩ := bv hS
 refine st1 h rfl rfl rfl (vB ez14_4 (v_ge rfl rfl)) fun a h => ?_
 refine st1 h rfl rfl rfl (v_assign rfl) fun a h => ?_
 refine st1 h rfl rfl rfl (v_assign rfl) fun a h => ?_
 refine c_nil hK ?_
 have h := h.only [4, 5] (l' := [_, _]) rfl
 obtain rfl := so hS
 refine c_ret (hret0 _ _ (out2 h rfl rfl rfl ?_))
 exact ⟨rfl, H.out⟩
end Go.Proofs.YtnmkeanoidadcaaGreatDoor
