/- Walks: the code computes what the partial functions say. -/
import Derived.Test.YtnmkeanoidadcaaGreatDoorSpD
import Derived.Test.YtnmkeanoidadcaaGreatDoorWkC
set_option linter.unusedSimpArgs false
set_option linter.unusedVariables false
set_option linter.unusedSectionVars false
namespace Go.Proofs.YtnmkeanoidadcaaGreatDoor
open Go.Stp Go.RowKit Go.ValP Go.Sp
set_option maxRecDepth 100000
theorem funcs_Of_ok {x0 : V} {res : Arg} {w0 : World} (hS : funcs_Of x0 = some res) {Z : FZ} (hZ : Z.inn w0) : Calls Tryz.prog 9 [.agg #[.int .i64 x0.k, .int .i64 x0.n, S x0.s]].toArray w0 (Ret fun v w => ∃ u1, v = .agg #[.bool res.area, .int .i64 res.cols, u1] ∧ RdZ (ZB Z w0.heap.size w) u1 3 vL res.l ∧ Ext w0 w) := by
 refine enter Tryz.func9 rfl rfl rfl fun Q a h hret0 hnor => ?_
 obtain ⟨Zi, eZi⟩ : ∃ Zi, Zi = Z := ⟨_, rfl⟩
 have H : HZ w0 Zi Z [] w0 := by rw [eZi]; exact HZ.startZ hZ
 rw [← eZi] at hret0
 clear eZi hnor
 have h := h.only [0] (l' := [_]) rfl
 unfold funcs_Of at hS
 refine c_region fun K hK => ?_
 refine z_box h H rfl [_, _, _] rfl rfl fun a p1_1 w X H h => ?_
 have H : HZ w0 _ _ [_] _ := H
 refine z_alloc h H Tryz.zeroValue29 [_, _, _] rfl rfl fun a p2_2 w X H h => ?_
 have H : HZ w0 _ _ [_, _] _ := H
 refine c_nil hK ?_
 refine c_region fun K hK => ?_
 refine st1 h rfl rfl rfl (v_loadA [_, _, _] rfl Tryz.isAgg25 Tryz.sizeOf25 (H.hp.get 0 rfl) rfl rfl) fun a h => ?_
 refine z_slice (enc := vL) ([x0] : List (V)) h H Tryz.underlying22 Tryz.sizeOf25 Tryz.zeroValue25 rfl (zl := [.int .i64 0, .int .i64 0, S []]) (by kernel_rfl) (plA_get 1 3) [_] [_, _, _] rfl rfl rfl rfl rfl fun a v4_3 Z w hsub X H r4_3 h => ?_
 refine st1 h rfl rfl rfl (v_build bld29 [.int .i64 1, v4_3] [.bool false, .int .i64 1, v4_3] rfl (by obtain ⟨_, _, _, e_⟩ := (r4_3).form; subst e_; rfl)) fun a h => ?_
 refine z_store h H 1 rfl rfl rfl Tryz.sizeOf29 [_, _, _] rfl rfl (by obtain ⟨_, _, _, e_⟩ := (r4_3).form; subst e_; rfl) (by simp) [_, _, _] rfl (hl' := [_, _]) rfl fun w H => ?_
 refine c_nil hK ?_
 have h := h.only [2] (l' := [_]) rfl
 obtain rfl := so hS
 refine c_ret (hret0 _ _ (out1 h rfl ⟨_, rfl, run_loadVar_agg (vs := [_, _, _]) Tryz.isAgg29 Tryz.sizeOf29 (H.hp.get 1 rfl) rfl rfl⟩ ?_))
 exact ⟨_, rfl, r4_3.sub H.back, H.out⟩

theorem funcs_single_ok {x0 : Arg} {res : V} {w0 : World} (hS : funcs_single x0 = some res) {xv0 : Value} (rp0 : RdZ (hz w0) xv0 3 vL x0.l) : Calls Tryz.prog 58 [.agg #[.bool x0.area, .int .i64 x0.cols, xv0]].toArray w0 (Ret fun v w => v = .agg #[.int .i64 res.k, .int .i64 res.n, S res.s] ∧ Ext w0 w) := by
 refine enter Tryz.func58 rfl rfl rfl fun Q a h hret0 hnor => ?_
 obtain ⟨Zi, Z, H, rp0⟩ : ∃ Zi Z, HZ w0 Zi Z [] w0 ∧ RdZ Z xv0 3 vL x0.l := ⟨_, _, HZ.start w0, rp0⟩
 have h := h.only [0] (l' := [_]) rfl
 unfold funcs_single at hS
 refine c_region fun K hK => ?_
 refine z_box h H rfl [_, _, _] rfl rfl fun a p1_1 w X H h => ?_
 have H : HZ w0 _ _ [_] _ := H
 refine z_alloc h H Tryz.zeroValue25 [_, _, _] rfl rfl fun a p2_2 w X H h => ?_
 have H : HZ w0 _ _ [_, _] _ := H
 refine c_nil hK ?_
 refine c_seq _ (fun a w c => c) fun Q3 hN3 hO3 => ?_
 have hret3 := hO3.ret hret0
 refine c_region fun K hK => ?_
 refine st1 h rfl rfl rfl (v_fieldAddr rfl Tryz.underlying29 rfl Tryz.sizeOf22 rfl rfl) fun a h => ?_
 refine st1 h rfl rfl rfl (v_load1 rfl Tryz.isAgg22 (H.hp.get 0 rfl) rfl) fun a h => ?_
 refine st1 h rfl rfl rfl (v_len Tryz.underlying22 rfl (rp0.at H.zin)) fun a h => ?_
 obtain ⟨z6_4, ez6_4, hS⟩ := bv hS
 refine st1 h rfl rfl rfl (vB ez6_4 (v_ne rfl rfl)) fun a h => ?_
 refine c_nil hK ?_
 have h := h.only [1, 2, 6] (l' := [_, _, _]) rfl
 refine c_cond h rfl (fun ec5 => ?_) (fun ec5 => ?_)
 ·
  have hS := ifT ec5 hS
  refine c_region fun K hK => ?_
  obtain ⟨y7_6, hy7_6, hS⟩ := bo hS
  refine st2v (T := Ext) (V := .agg #[.int .i64 y7_6.k, .int .i64 y7_6.n, S y7_6.s]) h rfl rfl rfl (d_call [_] rfl Tryz.call13 (value_Fail_ok (x0 := (2 : Int)) hy7_6)) fun w X a h => ?_
  have H := H.ext X
  refine z_store h H 1 rfl rfl rfl Tryz.sizeOf25 [_, _, _] rfl rfl rfl (by simp) [_, _, _] rfl (hl' := [_, _]) rfl fun w H => ?_
  refine c_nil hK ?_
  obtain rfl := so hS
  refine c_ret (hret3 _ _ (out1 h rfl ⟨_, rfl, run_loadVar_agg (vs := [_, _, _]) Tryz.isAgg25 Tryz.sizeOf25 (H.hp.get 1 rfl) rfl rfl⟩ ?_))
  exact ⟨rfl, H.out⟩
 ·
  have hS := ifF ec5 hS
  refine c_skip ?_
  refine hN3 _ _ ?_
  refine c_region fun K hK => ?_
  refine st1 h rfl rfl rfl (v_fieldAddr rfl Tryz.underlying29 rfl Tryz.sizeOf22 rfl rfl) fun a h => ?_
  refine st1 h rfl rfl rfl (v_load1 rfl Tryz.isAgg22 (H.hp.get 0 rfl) rfl) fun a h => ?_
  obtain ⟨c7, hS⟩ := ck hS
  obtain ⟨z10_8, ez10_8, hS⟩ := bv hS
  refine st_idx h Tryz.underlying22 Tryz.sizeOf25 rfl rfl (rp0.at H.zin) (fun _ => rfl) z10_8 c7.1 (by rw [ez10_8]; exact gel_some c7) rfl fun a v10 A10 h => ?_
  refine st1 h rfl rfl rfl (v_loadAtA [_, _, _] rfl A10 Tryz.isAgg25 Tryz.sizeOf25 rfl rfl) fun a h => ?_
  refine z_store h H 1 rfl rfl rfl Tryz.sizeOf25 [_, _, _] rfl rfl rfl (by simp) [_, _, _] rfl (hl' := [_, _]) rfl fun w H => ?_
  refine c_nil hK ?_
  have h := h.only [2] (l' := [_]) rfl
  obtain rfl := so hS
  refine c_ret (hret0 _ _ (out1 h rfl ⟨_, rfl, run_loadVar_agg (vs := [_, _, _]) Tryz.isAgg25 Tryz.sizeOf25 (H.hp.get 1 rfl) rfl rfl⟩ ?_))
  exact ⟨rfl, H.out⟩

theorem funcs_nums_ok {x0 : List (Arg)} {res : (List (Int)) × V} {w0 : World} (hS : funcs_nums x0 = some res) {xv0 : Value} (rp0 : RdN (hz w0) xv0 argEnc x0) : Calls Tryz.prog 28 [xv0].toArray w0 (Ret fun v w => ∃ u1, v = .tuple #[u1, .agg #[.int .i64 res.2.k, .int .i64 res.2.n, S res.2.s]] ∧ RdZ (ZB Z0 w0.heap.size w) u1 1 (eI .i64) res.1 ∧ Ext w0 w) := by
 refine enter Tryz.func28 rfl rfl rfl fun Q a h hret0 hnor => ?_
 obtain ⟨Zi, Z, H, rp0⟩ : ∃ Zi Z, HZ w0 Zi Z [] w0 ∧ RdN Z xv0 argEnc x0 := ⟨_, _, HZ.start w0, rp0⟩
 have h := h.only [0] (l' := [_]) rfl
 unfold funcs_nums at hS
 refine c_region fun K hK => ?_
 refine st1 h rfl rfl rfl (v_assign rfl) fun a h => ?_
 refine z_alloc h H Tryz.zeroValue25 [_, _, _] rfl rfl fun a p3_1 w X H h => ?_
 have H : HZ w0 _ _ [_] _ := H
 refine c_nil hK ?_
 refine c_region fun K hK => ?_
 refine st1 h rfl rfl rfl (v_assign rfl) fun a h => ?_
 refine c_nil hK ?_
 have H := H.nilRow 2 1 rfl
 have H : HZ w0 _ _ [_, _] _ := H
 have H := H.nilRow 2 1 rfl
 have H : HZ w0 _ _ [_, _, _] _ := H
 obtain ⟨J3, eJ3, hS⟩ := bv hS
 refine c_seq (fun a w => ∃ (Z : FZ) (s3 : Int × Int × (List UInt8) × (List (Int))) (sv4 : Value), J3 s3 = some res ∧ Fr 29 [(3, .pointer (some ⟨p3_1, 0, none⟩)), (4, sv4)] a ∧ HZ w0 Zi Z [.blk p3_1 (Cel [.int .i64 s3.1, .int .i64 s3.2.1, S s3.2.2.1] 25), .row 2 1 (.slice none 0 0) (([] : List (Int)) : List (Int)).length ((([] : List (Int)) : List (Int)).flatMap (eI .i64)), .row 2 1 sv4 (s3.2.2.2 : List (Int)).length ((s3.2.2.2 : List (Int)).flatMap (eI .i64))] w) ?_ fun Q2 hN2 hO2 => ?_
 ·
  rintro a w ⟨Z, s3, sv4, hS, h, H⟩
  subst eJ3
  refine c_region fun K hK => ?_
  refine st1 h rfl rfl rfl (v_move rfl) fun a h => ?_
  refine st1 h rfl rfl rfl (v_build bld25 [] [_, _, _] rfl rfl) fun a h => ?_
  refine st1 h rfl rfl rfl (v_assign rfl) fun a h => ?_
  refine z_store h H 0 rfl rfl rfl Tryz.sizeOf25 [_, _, _] rfl rfl rfl (by simp) [_, _, _] rfl (hl' := [_, _, _]) rfl fun w H => ?_
  refine c_nil hK ?_
  obtain rfl := so hS
  refine c_ret (hret0 _ _ (out2 h rfl rfl ⟨_, rfl, run_loadVar_agg (vs := [_, _, _]) Tryz.isAgg25 Tryz.sizeOf25 (H.hp.get 0 rfl) rfl rfl⟩ ?_))
  exact ⟨_, rfl, (H.backRow (i := 2) rfl), H.out⟩
 ·
  have hret2 := hO2.ret hret0
  refine c_region fun K hK => ?_
  refine st1 h rfl rfl rfl (v_move rfl) fun a h => ?_
  refine st1 h rfl rfl rfl (v_lenN Tryz.underlying27 rfl rp0 H.zin) fun a h => ?_
  refine st1 h rfl rfl rfl (v_move rfl) fun a h => ?_
  refine c_nil hK ?_
  refine c_lblock fun Q5 hN5 hx0_5 hO5 => ?_
  have hret5 := hO5.ret hret2
  obtain ⟨B6, eB6, hS⟩ := bv hS
  refine c_loopN (fun mu_ a w => ∃ (Z : FZ) (s6 : Int × Int × Int × (List UInt8) × (List (Int))) (sv8 : Value), loopF B6 mu_ s6 = some res ∧ Fr 29 [(3, .pointer (some ⟨p3_1, 0, none⟩)), (4, sv8), (8, xv0), (9, .int .i64 (x0.length : Int)), (10, .int .i64 s6.1)] a ∧ HZ w0 Zi Z [.blk p3_1 (Cel [.int .i64 s6.2.1, .int .i64 s6.2.2.1, S s6.2.2.2.1] 25), .row 2 1 (.slice none 0 0) (([] : List (Int)) : List (Int)).length ((([] : List (Int)) : List (Int)).flatMap (eI .i64)), .row 2 1 sv8 (s6.2.2.2.2 : List (Int)).length ((s6.2.2.2.2 : List (Int)).flatMap (eI .i64))] w ∧ RdN Z xv0 argEnc x0) KK ⟨_, (0, 0, 0, [], ([] : List (Int))), _, hS, (h.only [3, 4, 8, 9, 10] (l' := [_, _, _, _, _]) rfl), H, rp0⟩ ?_
  rintro mu_ a w ⟨Z, s6, sv8, hS, h, H, rp0⟩ Q7 hN7 hO7
  obtain ⟨mu_, rfl, n6, en6, hS⟩ := lpX eB6 hS
  have hret7 := hO7.ret hret5
  have hx0_7 := hO7.exit (i := 0) rfl hx0_5
  refine c_region fun K hK => ?_
  obtain ⟨z11_9, ez11_9, hS⟩ := bv hS
  refine st1 h rfl rfl rfl (vB ez11_9 (v_lt rfl rfl)) fun a h => ?_
  refine c_nil hK ?_
  refine c_seq _ (fun a w c => c) fun Q10 hN10 hO10 => ?_
  have hret10 := hO10.ret hret7
  have hx0_10 := hO10.exit (i := 0) rfl hx0_7
  refine c_cond h rfl (fun ec11 => ?_) (fun ec11 => ?_)
  ·
   have hS := ifT ec11 hS
   refine c_skip ?_
   refine hN10 _ _ ?_
   refine c_block _ (fun a w c => c) fun Q12 hN12 hx1_12 hO12 => ?_
   have hret12 := hO12.ret hret7
   have hx0_12 := hO12.exit (i := 0) rfl hx0_7
   refine c_region fun K hK => ?_
   obtain ⟨c13, hS⟩ := ck hS
   obtain ⟨z12_14, ez12_14, hS⟩ := bv hS
   obtain ⟨css_15, cl_15, rc_15, hc_15, v12_15_1, hcs_15, r12_15_1⟩ := (rp0).get (p := s6.1) (x := z12_14) (by rw [ez12_14]; exact gel_some c13)
   refine st_idxC h Tryz.underlying27 Tryz.sizeOf29 rfl rfl (rc_15.at H.zin) c13.1 hc_15 hcs_15 rfl fun a v12 A12 h => ?_
   refine st1 h rfl rfl rfl (v_loadAtA [_, _, _] rfl A12 Tryz.isAgg29 Tryz.sizeOf29 rfl rfl) fun a h => ?_
   refine z_alloc h H Tryz.zeroValue29 [_, _, _] rfl rfl fun a p6_16 w X H h => ?_
   have A12 := At.ext A12 X
   have H : HZ w0 _ _ [_, _, _, _] _ := H
   refine z_store h H 3 rfl rfl rfl Tryz.sizeOf29 [_, _, _] rfl rfl (by obtain ⟨_, _, _, e_⟩ := (r12_15_1).form; subst e_; rfl) (by simp) [_, _, _] rfl (hl' := [_, _, _, _]) rfl fun w H => ?_
   refine c_nil hK ?_
   refine c_region fun K hK => ?_
   refine st1 h rfl rfl rfl (v_loadA [_, _, _] rfl Tryz.isAgg29 Tryz.sizeOf29 (H.hp.get 3 rfl) rfl rfl) fun a h => ?_
   obtain ⟨y15_17, hy15_17, hS⟩ := bo hS
   refine st2v (T := Ext) (V := .agg #[.int .i64 y15_17.k, .int .i64 y15_17.n, S y15_17.s]) h rfl rfl rfl (d_call [_] rfl Tryz.call58 (funcs_single_ok (x0 := z12_14) hy15_17 (r12_15_1.hz H.zin))) fun w X a h => ?_
   have H := H.ext X
   obtain ⟨y16_18, hy16_18, hS⟩ := bo hS
   refine st2v (T := Ext) (V := .agg #[.int .i64 y16_18.k, .int .i64 y16_18.n, S y16_18.s]) h rfl rfl rfl (d_call [_] rfl Tryz.call14 (value_ToNum_ok (x0 := y15_17) hy16_18)) fun w X a h => ?_
   have H := H.ext X
   refine z_alloc h H Tryz.zeroValue25 [_, _, _] rfl rfl fun a p7_19 w X H h => ?_
   have H : HZ w0 _ _ [_, _, _, _, _] _ := H
   refine z_store h H 4 rfl rfl rfl Tryz.sizeOf25 [_, _, _] rfl rfl rfl (by simp) [_, _, _] rfl (hl' := [_, _, _, _, _]) rfl fun w H => ?_
   refine c_nil hK ?_
   have h := h.only [3, 4, 7, 8, 9, 10] (l' := [_, _, _, _, _, _]) rfl
   refine c_seq _ (fun a w c => c) fun Q20 hN20 hO20 => ?_
   have hret20 := hO20.ret hret12
   have hx0_20 := hO20.exit (i := 0) rfl hx0_12
   have hx1_20 := hO20.exit (i := 1) rfl hx1_12
   refine c_region fun K hK => ?_
   refine st1 h rfl rfl rfl (v_fieldAddr rfl Tryz.underlying25 rfl Tryz.sizeOf3 rfl rfl) fun a h => ?_
   refine st1 h rfl rfl rfl (v_load1 rfl Tryz.isAgg3 (H.hp.get 4 rfl) rfl) fun a h => ?_
   obtain ⟨z19_21, ez19_21, hS⟩ := bv hS
   refine st1 h rfl rfl rfl (vB ez19_21 (v_eq rfl rfl)) fun a h => ?_
   refine c_nil hK ?_
   refine c_cond h rfl (fun ec22 => ?_) (fun ec22 => ?_)
   ·
    have hS := ifT ec22 hS
    refine c_flowT 2 h (by kernel_rfl) (by kernel_rfl) fun K hK => ?_
    refine f1 [7] rfl rfl rfl rfl (fun w X => have H := H.ext X; v_loadA [_, _, _] rfl Tryz.isAgg25 Tryz.sizeOf25 (H.hp.get 4 rfl) rfl rfl) ?_
    refine f1 [] rfl rfl rfl rfl (fun w X => v_assign rfl) ?_
    refine fn_ ?_
    intro a w X hR hA
    have h := hR.out [2, 3, 20]
    have h : Fr 29 [(20, _), (3, _), (2, _)] a := h
    have H := H.ext X
    refine z_store h H 0 rfl rfl rfl Tryz.sizeOf25 [_, _, _] rfl rfl rfl (by simp) [_, _, _] rfl (hl' := [_, _, _, _, _]) rfl fun w H => ?_
    refine c_nil hK ?_
    obtain rfl := so hS
    refine c_ret (hret20 _ _ (out2 h rfl rfl ⟨_, rfl, run_loadVar_agg (vs := [_, _, _]) Tryz.isAgg25 Tryz.sizeOf25 (H.hp.get 0 rfl) rfl rfl⟩ ?_))
    exact ⟨_, rfl, RdZ.nil, H.out⟩
   ·
    have hS := ifF ec22 hS
    refine c_skip ?_
    refine hN20 _ _ ?_
    refine c_lregion ?_
    refine st1 h rfl rfl rfl (v_move rfl) fun a h => ?_
    refine st1 h rfl rfl rfl (v_fieldAddr rfl Tryz.underlying25 rfl Tryz.sizeOf2 rfl rfl) fun a h => ?_
    refine st1 h rfl rfl rfl (v_load1 rfl Tryz.isAgg2 (H.hp.get 4 rfl) rfl) fun a h => ?_
    refine z_slice (enc := (eI .i64)) ([y16_18.n] : List (Int)) h H Tryz.underlying52 Tryz.sizeOf2 Tryz.zeroValue2 rfl (zl := [.int .i64 0]) (by kernel_rfl) (plA_get 1 1) [_] [_] rfl rfl rfl rfl rfl fun a v24_23 Z w hsub X H r24_23 h => ?_
    have r12_15_1 := r12_15_1.sub hsub
    have rp0 := rp0.sub hsub
    obtain ⟨c25, hS⟩ := ck hS
    obtain ⟨z25_26, ez25_26, hS⟩ := bv hS
    refine z_appendS (enc := (eI .i64)) (out := s6.2.2.2.2) (data := [y16_18.n]) h H 2 rfl Tryz.underlying52 app2 rfl rfl rfl r24_23 (fun _ => rfl) (fun _ _ => rfl) c25 rfl fun a v25_24 w H h => ?_
    rw [← ez25_26] at H
    have H : HZ w0 _ _ [_, _, _, _, _] _ := H
    refine st1 h rfl rfl rfl (v_assign rfl) fun a h => ?_
    refine c_lnil ?_
    refine hN12 _ _ ?_
    have h := h.only [3, 4, 8, 9, 10] (l' := [_, _, _, _, _]) rfl
    refine c_lregion ?_
    obtain ⟨z26_27, ez26_27, hS⟩ := bv hS
    refine st1 h rfl rfl rfl (vI ez26_27 (v_addw rfl rfl)) fun a h => ?_
    refine st1 h rfl rfl rfl (v_move rfl) fun a h => ?_
    refine c_lnil ?_
    exact hN7 _ _ _ (Nat.lt_succ_self _) ⟨_, (z26_27, s6.2.1, s6.2.2.1, s6.2.2.2.1, z25_26), _, lpN en6 hS, (h.only [3, 4, 8, 9, 10] (l' := [_, _, _, _, _]) rfl), (H.keepN 3 rfl), rp0⟩
  ·
   have hS := ifF ec11 hS
   refine c_exit ?_
   refine hx0_10 _ _ ?_
   exact hN2 _ _ ⟨_, (s6.2.1, s6.2.2.1, s6.2.2.2.1, s6.2.2.2.2), _, hS, (h.only [3, 4] (l' := [_, _]) rfl), H⟩

theorem funcs_strs_ok {x0 : List (Arg)} {res : (List (List UInt8)) × V} {w0 : World} (hS : funcs_strs x0 = some res) {xv0 : Value} (rp0 : RdN (hz w0) xv0 argEnc x0) (hG : GW w0) : Calls Tryz.prog 29 [xv0].toArray w0 (Ret fun v w => ∃ u1, v = .tuple #[u1, .agg #[.int .i64 res.2.k, .int .i64 res.2.n, S res.2.s]] ∧ RdZ (ZB Z0 w0.heap.size w) u1 1 eS res.1 ∧ Ext w0 w) := by
 refine enter Tryz.func29 rfl rfl rfl fun Q a h hret0 hnor => ?_
 obtain ⟨Zi, Z, H, rp0⟩ : ∃ Zi Z, HZ w0 Zi Z [] w0 ∧ RdN Z xv0 argEnc x0 := ⟨_, _, HZ.start w0, rp0⟩
 have h := h.only [0] (l' := [_]) rfl
 unfold funcs_strs at hS
 refine c_region fun K hK => ?_
 refine st1 h rfl rfl rfl (v_assign rfl) fun a h => ?_
 refine z_alloc h H Tryz.zeroValue25 [_, _, _] rfl rfl fun a p3_1 w X H h => ?_
 have H : HZ w0 _ _ [_] _ := H
 refine c_nil hK ?_
 refine c_region fun K hK => ?_
 refine st1 h rfl rfl rfl (v_assign rfl) fun a h => ?_
 refine c_nil hK ?_
 have H := H.nilRow 9 1 rfl
 have H : HZ w0 _ _ [_, _] _ := H
 have H := H.nilRow 9 1 rfl
 have H : HZ w0 _ _ [_, _, _] _ := H
 obtain ⟨J3, eJ3, hS⟩ := bv hS
 refine c_seq (fun a w => ∃ (Z : FZ) (s3 : Int × Int × (List UInt8) × (List (List UInt8))) (sv4 : Value), J3 s3 = some res ∧ Fr 29 [(3, .pointer (some ⟨p3_1, 0, none⟩)), (4, sv4)] a ∧ HZ w0 Zi Z [.blk p3_1 (Cel [.int .i64 s3.1, .int .i64 s3.2.1, S s3.2.2.1] 25), .row 9 1 (.slice none 0 0) (([] : List (List UInt8)) : List (List UInt8)).length ((([] : List (List UInt8)) : List (List UInt8)).flatMap eS), .row 9 1 sv4 (s3.2.2.2 : List (List UInt8)).length ((s3.2.2.2 : List (List UInt8)).flatMap eS)] w) ?_ fun Q2 hN2 hO2 => ?_
 ·
  rintro a w ⟨Z, s3, sv4, hS, h, H⟩
  subst eJ3
  refine c_region fun K hK => ?_
  refine st1 h rfl rfl rfl (v_move rfl) fun a h => ?_
  refine st1 h rfl rfl rfl (v_build bld25 [] [_, _, _] rfl rfl) fun a h => ?_
  refine st1 h rfl rfl rfl (v_assign rfl) fun a h => ?_
  refine z_store h H 0 rfl rfl rfl Tryz.sizeOf25 [_, _, _] rfl rfl rfl (by simp) [_, _, _] rfl (hl' := [_, _, _]) rfl fun w H => ?_
  refine c_nil hK ?_
  obtain rfl := so hS
  refine c_ret (hret0 _ _ (out2 h rfl rfl ⟨_, rfl, run_loadVar_agg (vs := [_, _, _]) Tryz.isAgg25 Tryz.sizeOf25 (H.hp.get 0 rfl) rfl rfl⟩ ?_))
  exact ⟨_, rfl, (H.backRow (i := 2) rfl), H.out⟩
 ·
  have hret2 := hO2.ret hret0
  refine c_region fun K hK => ?_
  refine st1 h rfl rfl rfl (v_move rfl) fun a h => ?_
  refine st1 h rfl rfl rfl (v_lenN Tryz.underlying27 rfl rp0 H.zin) fun a h => ?_
  refine st1 h rfl rfl rfl (v_move rfl) fun a h => ?_
  refine c_nil hK ?_
  refine c_lblock fun Q5 hN5 hx0_5 hO5 => ?_
  have hret5 := hO5.ret hret2
  obtain ⟨B6, eB6, hS⟩ := bv hS
  refine c_loopN (fun mu_ a w => ∃ (Z : FZ) (s6 : Int × Int × Int × (List UInt8) × (List (List UInt8))) (sv8 : Value), loopF B6 mu_ s6 = some res ∧ Fr 29 [(3, .pointer (some ⟨p3_1, 0, none⟩)), (4, sv8), (8, xv0), (9, .int .i64 (x0.length : Int)), (10, .int .i64 s6.1)] a ∧ HZ w0 Zi Z [.blk p3_1 (Cel [.int .i64 s6.2.1, .int .i64 s6.2.2.1, S s6.2.2.2.1] 25), .row 9 1 (.slice none 0 0) (([] : List (List UInt8)) : List (List UInt8)).length ((([] : List (List UInt8)) : List (List UInt8)).flatMap eS), .row 9 1 sv8 (s6.2.2.2.2 : List (List UInt8)).length ((s6.2.2.2.2 : List (List UInt8)).flatMap eS)] w ∧ RdN Z xv0 argEnc x0) KK ⟨_, (0, 0, 0, [], ([] : List (List UInt8))), _, hS, (h.only [3, 4, 8, 9, 10] (l' := [_, _, _, _, _]) rfl), H, rp0⟩ ?_
  rintro mu_ a w ⟨Z, s6, sv8, hS, h, H, rp0⟩ Q7 hN7 hO7
  obtain ⟨mu_, rfl, n6, en6, hS⟩ := lpX eB6 hS
  have hret7 := hO7.ret hret5
  have hx0_7 := hO7.exit (i := 0) rfl hx0_5
  refine c_region fun K hK => ?_
  obtain ⟨z11_9, ez11_9, hS⟩ := bv hS
  refine st1 h rfl rfl rfl (vB ez11_9 (v_lt rfl rfl)) fun a h => ?_
  refine c_nil hK ?_
  refine c_seq _ (fun a w c => c) fun Q10 hN10 hO10 => ?_
  have hret10 := hO10.ret hret7
  have hx0_10 := hO10.exit (i := 0) rfl hx0_7
  refine c_cond h rfl (fun ec11 => ?_) (fun ec11 => ?_)
  ·
   have hS := ifT ec11 hS
   refine c_skip ?_
   refine hN10 _ _ ?_
   refine c_block _ (fun a w c => c) fun Q12 hN12 hx1_12 hO12 => ?_
   have hret12 := hO12.ret hret7
   have hx0_12 := hO12.exit (i := 0) rfl hx0_7
   refine c_region fun K hK => ?_
   obtain ⟨c13, hS⟩ := ck hS
   obtain ⟨z12_14, ez12_14, hS⟩ := bv hS
   obtain ⟨css_15, cl_15, rc_15, hc_15, v12_15_1, hcs_15, r12_15_1⟩ := (rp0).get (p := s6.1) (x := z12_14) (by rw [ez12_14]; exact gel_some c13)
   refine st_idxC h Tryz.underlying27 Tryz.sizeOf29 rfl rfl (rc_15.at H.zin) c13.1 hc_15 hcs_15 rfl fun a v12 A12 h => ?_
   refine st1 h rfl rfl rfl (v_loadAtA [_, _, _] rfl A12 Tryz.isAgg29 Tryz.sizeOf29 rfl rfl) fun a h => ?_
   refine z_alloc h H Tryz.zeroValue29 [_, _, _] rfl rfl fun a p6_16 w X H h => ?_
   have A12 := At.ext A12 X
   have H : HZ w0 _ _ [_, _, _, _] _ := H
   refine z_store h H 3 rfl rfl rfl Tryz.sizeOf29 [_, _, _] rfl rfl (by obtain ⟨_, _, _, e_⟩ := (r12_15_1).form; subst e_; rfl) (by simp) [_, _, _] rfl (hl' := [_, _, _, _]) rfl fun w H => ?_
   refine c_nil hK ?_
   refine c_region fun K hK => ?_
   refine st1 h rfl rfl rfl (v_loadA [_, _, _] rfl Tryz.isAgg29 Tryz.sizeOf29 (H.hp.get 3 rfl) rfl rfl) fun a h => ?_
   obtain ⟨y15_17, hy15_17, hS⟩ := bo hS
   refine st2v (T := Ext) (V := .agg #[.int .i64 y15_17.k, .int .i64 y15_17.n, S y15_17.s]) h rfl rfl rfl (d_call [_] rfl Tryz.call58 (funcs_single_ok (x0 := z12_14) hy15_17 (r12_15_1.hz H.zin))) fun w X a h => ?_
   have H := H.ext X
   obtain ⟨y16_18, hy16_18, hS⟩ := bo hS
   refine st2v (T := Ext) (V := .agg #[.int .i64 y16_18.k, .int .i64 y16_18.n, S y16_18.s]) h rfl rfl rfl (d_call [_] rfl Tryz.call59 (value_ToText_ok (x0 := y15_17) hy16_18 (hG.ext H.out))) fun w X a h => ?_
   have H := H.ext X
   refine z_alloc h H Tryz.zeroValue25 [_, _, _] rfl rfl fun a p7_19 w X H h => ?_
   have H : HZ w0 _ _ [_, _, _, _, _] _ := H
   refine z_store h H 4 rfl rfl rfl Tryz.sizeOf25 [_, _, _] rfl rfl rfl (by simp) [_, _, _] rfl (hl' := [_, _, _, _, _]) rfl fun w H => ?_
   refine c_nil hK ?_
   have h := h.only [3, 4, 7, 8, 9, 10] (l' := [_, _, _, _, _, _]) rfl
   refine c_seq _ (fun a w c => c) fun Q20 hN20 hO20 => ?_
   have hret20 := hO20.ret hret12
   have hx0_20 := hO20.exit (i := 0) rfl hx0_12
   have hx1_20 := hO20.exit (i := 1) rfl hx1_12
   refine c_region fun K hK => ?_
   refine st1 h rfl rfl rfl (v_fieldAddr rfl Tryz.underlying25 rfl Tryz.sizeOf3 rfl rfl) fun a h => ?_
   refine st1 h rfl rfl rfl (v_load1 rfl Tryz.isAgg3 (H.hp.get 4 rfl) rfl) fun a h => ?_
   obtain ⟨z19_21, ez19_21, hS⟩ := bv hS
   refine st1 h rfl rfl rfl (vB ez19_21 (v_eq rfl rfl)) fun a h => ?_
   refine c_nil hK ?_
   refine c_cond h rfl (fun ec22 => ?_) (fun ec22 => ?_)
   ·
    have hS := ifT ec22 hS
    refine c_flowT 2 h (by kernel_rfl) (by kernel_rfl) fun K hK => ?_
    refine f1 [7] rfl rfl rfl rfl (fun w X => have H := H.ext X; v_loadA [_, _, _] rfl Tryz.isAgg25 Tryz.sizeOf25 (H.hp.get 4 rfl) rfl rfl) ?_
    refine f1 [] rfl rfl rfl rfl (fun w X => v_assign rfl) ?_
    refine fn_ ?_
    intro a w X hR hA
    have h := hR.out [2, 3, 20]
    have h : Fr 29 [(20, _), (3, _), (2, _)] a := h
    have H := H.ext X
    refine z_store h H 0 rfl rfl rfl Tryz.sizeOf25 [_, _, _] rfl rfl rfl (by simp) [_, _, _] rfl (hl' := [_, _, _, _, _]) rfl fun w H => ?_
    refine c_nil hK ?_
    obtain rfl := so hS
    refine c_ret (hret20 _ _ (out2 h rfl rfl ⟨_, rfl, run_loadVar_agg (vs := [_, _, _]) Tryz.isAgg25 Tryz.sizeOf25 (H.hp.get 0 rfl) rfl rfl⟩ ?_))
    exact ⟨_, rfl, RdZ.nil, H.out⟩
   ·
    have hS := ifF ec22 hS
    refine c_skip ?_
    refine hN20 _ _ ?_
    refine c_lregion ?_
    refine st1 h rfl rfl rfl (v_move rfl) fun a h => ?_
    refine st1 h rfl rfl rfl (v_fieldAddr rfl Tryz.underlying25 rfl Tryz.sizeOf9 rfl rfl) fun a h => ?_
    refine st1 h rfl rfl rfl (v_load1 rfl Tryz.isAgg9 (H.hp.get 4 rfl) rfl) fun a h => ?_
    refine z_slice (enc := eS) ([y16_18.s] : List (List UInt8)) h H Tryz.underlying36 Tryz.sizeOf9 Tryz.zeroValue9 rfl (zl := [S []]) (by kernel_rfl) (plA_get 1 1) [_] [_] rfl rfl rfl rfl rfl fun a v24_23 Z w hsub X H r24_23 h => ?_
    have r12_15_1 := r12_15_1.sub hsub
    have rp0 := rp0.sub hsub
    obtain ⟨c25, hS⟩ := ck hS
    obtain ⟨z25_26, ez25_26, hS⟩ := bv hS
    refine z_appendS (enc := eS) (out := s6.2.2.2.2) (data := [y16_18.s]) h H 2 rfl Tryz.underlying36 app9 rfl rfl rfl r24_23 (fun _ => rfl) (fun _ _ => rfl) c25 rfl fun a v25_24 w H h => ?_
    rw [← ez25_26] at H
    have H : HZ w0 _ _ [_, _, _, _, _] _ := H
    refine st1 h rfl rfl rfl (v_assign rfl) fun a h => ?_
    refine c_lnil ?_
    refine hN12 _ _ ?_
    have h := h.only [3, 4, 8, 9, 10] (l' := [_, _, _, _, _]) rfl
    refine c_lregion ?_
    obtain ⟨z26_27, ez26_27, hS⟩ := bv hS
    refine st1 h rfl rfl rfl (vI ez26_27 (v_addw rfl rfl)) fun a h => ?_
    refine st1 h rfl rfl rfl (v_move rfl) fun a h => ?_
    refine c_lnil ?_
    exact hN7 _ _ _ (Nat.lt_succ_self _) ⟨_, (z26_27, s6.2.1, s6.2.2.1, s6.2.2.2.1, z25_26), _, lpN en6 hS, (h.only [3, 4, 8, 9, 10] (l' := [_, _, _, _, _]) rfl), (H.keepN 3 rfl), rp0⟩
  ·
   have hS := ifF ec11 hS
   refine c_exit ?_
   refine hx0_10 _ _ ?_
   exact hN2 _ _ ⟨_, (s6.2.1, s6.2.2.1, s6.2.2.2.1, s6.2.2.2.2), _, hS, (h.only [3, 4] (l' := [_, _]) rfl), H⟩

theorem funcs_all_ok {x0 : List (Arg)} {res : (List (V))} {w0 : World} (hS : funcs_all x0 = some res) {xv0 : Value} (rp0 : RdN (hz w0) xv0 argEnc x0) : Calls Tryz.prog 61 [xv0].toArray w0 (Ret fun v w => RdZ (ZB Z0 w0.heap.size w) v 3 vL res ∧ Ext w0 w) := by
 refine enter Tryz.func61 rfl rfl rfl fun Q a h hret0 hnor => ?_
 obtain ⟨Zi, Z, H, rp0⟩ : ∃ Zi Z, HZ w0 Zi Z [] w0 ∧ RdN Z xv0 argEnc x0 := ⟨_, _, HZ.start w0, rp0⟩
 have h := h.only [0] (l' := [_]) rfl
 unfold funcs_all at hS
 refine c_region fun K hK => ?_
 refine st1 h rfl rfl rfl (v_assign rfl) fun a h => ?_
 refine c_nil hK ?_
 refine c_region fun K hK => ?_
 refine st1 h rfl rfl rfl (v_assign rfl) fun a h => ?_
 refine c_nil hK ?_
 have H := H.nilRow 25 3 rfl
 have H : HZ w0 _ _ [_] _ := H
 obtain ⟨J2, eJ2, hS⟩ := bv hS
 refine c_seq (fun a w => ∃ (Z : FZ) (s2 : (List (V))) (sv3 : Value), J2 s2 = some res ∧ Fr 18 [(3, sv3)] a ∧ HZ w0 Zi Z [.row 25 3 sv3 (s2 : List (V)).length ((s2 : List (V)).flatMap vL)] w) ?_ fun Q1 hN1 hO1 => ?_
 ·
  rintro a w ⟨Z, s2, sv3, hS, h, H⟩
  subst eJ2
  refine c_region fun K hK => ?_
  refine st1 h rfl rfl rfl (v_move rfl) fun a h => ?_
  refine st1 h rfl rfl rfl (v_assign rfl) fun a h => ?_
  refine c_nil hK ?_
  obtain rfl := so hS
  refine c_ret (hret0 _ _ (out1 h rfl rfl ?_))
  exact ⟨(H.backRow (i := 0) rfl), H.out⟩
 ·
  have hret1 := hO1.ret hret0
  refine c_region fun K hK => ?_
  refine st1 h rfl rfl rfl (v_move rfl) fun a h => ?_
  refine st1 h rfl rfl rfl (v_lenN Tryz.underlying27 rfl rp0 H.zin) fun a h => ?_
  refine st1 h rfl rfl rfl (v_move rfl) fun a h => ?_
  refine c_nil hK ?_
  refine c_lblock fun Q4 hN4 hx0_4 hO4 => ?_
  have hret4 := hO4.ret hret1
  obtain ⟨B5, eB5, hS⟩ := bv hS
  refine c_loopN (fun mu_ a w => ∃ (Z : FZ) (s5 : Int × (List (V))) (sv7 : Value), loopF B5 mu_ s5 = some res ∧ Fr 18 [(3, sv7), (6, xv0), (7, .int .i64 (x0.length : Int)), (8, .int .i64 s5.1)] a ∧ HZ w0 Zi Z [.row 25 3 sv7 (s5.2 : List (V)).length ((s5.2 : List (V)).flatMap vL)] w ∧ RdN Z xv0 argEnc x0) KK ⟨_, (0, ([] : List (V))), _, hS, (h.only [3, 6, 7, 8] (l' := [_, _, _, _]) rfl), H, rp0⟩ ?_
  rintro mu_ a w ⟨Z, s5, sv7, hS, h, H, rp0⟩ Q6 hN6 hO6
  obtain ⟨mu_, rfl, n5, en5, hS⟩ := lpX eB5 hS
  have hret6 := hO6.ret hret4
  have hx0_6 := hO6.exit (i := 0) rfl hx0_4
  refine c_region fun K hK => ?_
  obtain ⟨z9_8, ez9_8, hS⟩ := bv hS
  refine st1 h rfl rfl rfl (vB ez9_8 (v_lt rfl rfl)) fun a h => ?_
  refine c_nil hK ?_
  refine c_seq _ (fun a w c => c) fun Q9 hN9 hO9 => ?_
  have hret9 := hO9.ret hret6
  have hx0_9 := hO9.exit (i := 0) rfl hx0_6
  refine c_cond h rfl (fun ec10 => ?_) (fun ec10 => ?_)
  ·
   have hS := ifT ec10 hS
   refine c_skip ?_
   refine hN9 _ _ ?_
   refine c_block _ (fun a w c => c) fun Q11 hN11 hx1_11 hO11 => ?_
   have hret11 := hO11.ret hret6
   have hx0_11 := hO11.exit (i := 0) rfl hx0_6
   refine c_region fun K hK => ?_
   obtain ⟨c12, hS⟩ := ck hS
   obtain ⟨z10_13, ez10_13, hS⟩ := bv hS
   obtain ⟨css_14, cl_14, rc_14, hc_14, v10_14_1, hcs_14, r10_14_1⟩ := (rp0).get (p := s5.1) (x := z10_13) (by rw [ez10_13]; exact gel_some c12)
   refine st_idxC h Tryz.underlying27 Tryz.sizeOf29 rfl rfl (rc_14.at H.zin) c12.1 hc_14 hcs_14 rfl fun a v10 A10 h => ?_
   refine st1 h rfl rfl rfl (v_loadAtA [_, _, _] rfl A10 Tryz.isAgg29 Tryz.sizeOf29 rfl rfl) fun a h => ?_
   refine z_alloc h H Tryz.zeroValue29 [_, _, _] rfl rfl fun a p5_15 w X H h => ?_
   have A10 := At.ext A10 X
   have H : HZ w0 _ _ [_, _] _ := H
   refine z_store h H 1 rfl rfl rfl Tryz.sizeOf29 [_, _, _] rfl rfl (by obtain ⟨_, _, _, e_⟩ := (r10_14_1).form; subst e_; rfl) (by simp) [_, _, _] rfl (hl' := [_, _]) rfl fun w H => ?_
   refine c_nil hK ?_
   refine c_lregion ?_
   refine st1 h rfl rfl rfl (v_move rfl) fun a h => ?_
   refine st1 h rfl rfl rfl (v_fieldAddr rfl Tryz.underlying29 rfl Tryz.sizeOf22 rfl rfl) fun a h => ?_
   refine st1 h rfl rfl rfl (v_load1 rfl Tryz.isAgg22 (H.hp.get 1 rfl) rfl) fun a h => ?_
   obtain ⟨c17, hS⟩ := ck hS
   obtain ⟨z15_18, ez15_18, hS⟩ := bv hS
   refine z_appendS (enc := vL) (out := s5.2) (data := z10_13.l) h H 0 rfl Tryz.underlying22 app25 rfl rfl rfl r10_14_1 (fun _ => rfl) (fun _ _ => rfl) c17 rfl fun a v15_16 w H h => ?_
   rw [← ez15_18] at H
   have H : HZ w0 _ _ [_, _] _ := H
   refine st1 h rfl rfl rfl (v_assign rfl) fun a h => ?_
   refine c_lnil ?_
   refine hN11 _ _ ?_
   have h := h.only [3, 6, 7, 8] (l' := [_, _, _, _]) rfl
   refine c_lregion ?_
   obtain ⟨z16_19, ez16_19, hS⟩ := bv hS
   refine st1 h rfl rfl rfl (vI ez16_19 (v_addw rfl rfl)) fun a h => ?_
   refine st1 h rfl rfl rfl (v_move rfl) fun a h => ?_
   refine c_lnil ?_
   exact hN6 _ _ _ (Nat.lt_succ_self _) ⟨_, (z16_19, z15_18), _, lpN en5 hS, (h.only [3, 6, 7, 8] (l' := [_, _, _, _]) rfl), (H.keepN 1 rfl), rp0⟩
  ·
   have hS := ifF ec10 hS
   refine c_exit ?_
   refine hx0_9 _ _ ?_
   exact hN1 _ _ ⟨_, s5.2, _, hS, (h.only [3] (l' := [_]) rfl), H⟩

theorem funcs_kind_ok {x0 : List UInt8} {x1 : V} {res : V} {w0 : World} (hS : funcs_kind x0 x1 = some res) : Calls Tryz.prog 72 [S x0, .agg #[.int .i64 x1.k, .int .i64 x1.n, S x1.s]].toArray w0 (Ret fun v w => v = .agg #[.int .i64 res.k, .int .i64 res.n, S res.s] ∧ Ext w0 w) := by
 refine enter Tryz.func72 rfl rfl rfl fun Q a h hret0 hnor => ?_
 obtain ⟨Zi, Z, H⟩ : ∃ Zi Z, HZ w0 Zi Z [] w0 := ⟨_, _, HZ.start w0⟩
 have h := h.only [0, 1] (l' := [_, _]) rfl
 unfold funcs_kind at hS
 refine c_region fun K hK => ?_
 refine z_box h H rfl [_, _, _] rfl rfl fun a p3_1 w X H h => ?_
 have H : HZ w0 _ _ [_] _ := H
 refine z_alloc h H Tryz.zeroValue25 [_, _, _] rfl rfl fun a p4_2 w X H h => ?_
 have H : HZ w0 _ _ [_, _] _ := H
 refine c_nil hK ?_
 refine c_seq _ (fun a w c => c) fun Q3 hN3 hO3 => ?_
 have hret3 := hO3.ret hret0
 refine c_region fun K hK => ?_
 refine st1 h rfl rfl rfl (v_move rfl) fun a h => ?_
 refine c_nil hK ?_
 refine c_lblock fun Q4 hN4 hx0_4 hO4 => ?_
 have hret4 := hO4.ret hret3
 refine c_region fun K hK => ?_
 obtain ⟨z8_5, ez8_5, hS⟩ := bv hS
 refine st1 h rfl rfl rfl (vB ez8_5 (v_seq rfl rfl)) fun a h => ?_
 refine st1 h rfl rfl rfl (v_assign rfl) fun a h => ?_
 refine c_nil hK ?_
 refine c_cond h rfl (fun ec6 => ?_) (fun ec6 => ?_)
 ·
  have hS := ifT ec6 hS
  refine c_region fun K hK => ?_
  refine st1 h rfl rfl rfl (v_fieldAddr rfl Tryz.underlying25 rfl Tryz.sizeOf3 rfl rfl) fun a h => ?_
  refine st1 h rfl rfl rfl (v_load1 rfl Tryz.isAgg3 (H.hp.get 0 rfl) rfl) fun a h => ?_
  obtain ⟨z11_7, ez11_7, hS⟩ := bv hS
  refine st1 h rfl rfl rfl (vB ez11_7 (v_eq rfl rfl)) fun a h => ?_
  obtain ⟨y12_8, hy12_8, hS⟩ := bo hS
  refine st2v (T := Ext) (V := .agg #[.int .i64 y12_8.k, .int .i64 y12_8.n, S y12_8.s]) h rfl rfl rfl (d_call [_] rfl Tryz.call24 (value_Bool_ok (x0 := z11_7) hy12_8)) fun w X a h => ?_
  have H := H.ext X
  refine z_store h H 1 rfl rfl rfl Tryz.sizeOf25 [_, _, _] rfl rfl rfl (by simp) [_, _, _] rfl (hl' := [_, _]) rfl fun w H => ?_
  refine c_nil hK ?_
  have h := h.only [4] (l' := [_]) rfl
  obtain rfl := so hS
  refine c_ret (hret4 _ _ (out1 h rfl ⟨_, rfl, run_loadVar_agg (vs := [_, _, _]) Tryz.isAgg25 Tryz.sizeOf25 (H.hp.get 1 rfl) rfl rfl⟩ ?_))
  exact ⟨rfl, H.out⟩
 ·
  have hS := ifF ec6 hS
  refine c_region fun K hK => ?_
  obtain ⟨z14_9, ez14_9, hS⟩ := bv hS
  refine st1 h rfl rfl rfl (vB ez14_9 (v_seq rfl rfl)) fun a h => ?_
  refine st1 h rfl rfl rfl (v_assign rfl) fun a h => ?_
  refine c_nil hK ?_
  have h := h.only [3, 4, 6, 13] (l' := [_, _, _, _]) rfl
  refine c_cond h rfl (fun ec10 => ?_) (fun ec10 => ?_)
  ·
   have hS := ifT ec10 hS
   refine c_region fun K hK => ?_
   refine st1 h rfl rfl rfl (v_fieldAddr rfl Tryz.underlying25 rfl Tryz.sizeOf3 rfl rfl) fun a h => ?_
   refine st1 h rfl rfl rfl (v_load1 rfl Tryz.isAgg3 (H.hp.get 0 rfl) rfl) fun a h => ?_
   obtain ⟨z17_11, ez17_11, hS⟩ := bv hS
   refine st1 h rfl rfl rfl (vB ez17_11 (v_eq rfl rfl)) fun a h => ?_
   obtain ⟨y18_12, hy18_12, hS⟩ := bo hS
   refine st2v (T := Ext) (V := .agg #[.int .i64 y18_12.k, .int .i64 y18_12.n, S y18_12.s]) h rfl rfl rfl (d_call [_] rfl Tryz.call24 (value_Bool_ok (x0 := z17_11) hy18_12)) fun w X a h => ?_
   have H := H.ext X
   refine z_store h H 1 rfl rfl rfl Tryz.sizeOf25 [_, _, _] rfl rfl rfl (by simp) [_, _, _] rfl (hl' := [_, _]) rfl fun w H => ?_
   refine c_nil hK ?_
   have h := h.only [4] (l' := [_]) rfl
   obtain rfl := so hS
   refine c_ret (hret4 _ _ (out1 h rfl ⟨_, rfl, run_loadVar_agg (vs := [_, _, _]) Tryz.isAgg25 Tryz.sizeOf25 (H.hp.get 1 rfl) rfl rfl⟩ ?_))
   exact ⟨rfl, H.out⟩
  ·
   have hS := ifF ec10 hS
   refine c_region fun K hK => ?_
   obtain ⟨z20_13, ez20_13, hS⟩ := bv hS
   refine st1 h rfl rfl rfl (vB ez20_13 (v_seq rfl rfl)) fun a h => ?_
   refine st1 h rfl rfl rfl (v_assign rfl) fun a h => ?_
   refine c_nil hK ?_
   refine c_cond h rfl (fun ec14 => ?_) (fun ec14 => ?_)
   ·
    have hS := ifT ec14 hS
    refine c_region fun K hK => ?_
    refine st1 h rfl rfl rfl (v_fieldAddr rfl Tryz.underlying25 rfl Tryz.sizeOf3 rfl rfl) fun a h => ?_
    refine st1 h rfl rfl rfl (v_load1 rfl Tryz.isAgg3 (H.hp.get 0 rfl) rfl) fun a h => ?_
    obtain ⟨z23_15, ez23_15, hS⟩ := bv hS
    refine st1 h rfl rfl rfl (vB ez23_15 (v_eq rfl rfl)) fun a h => ?_
    obtain ⟨y24_16, hy24_16, hS⟩ := bo hS
    refine st2v (T := Ext) (V := .agg #[.int .i64 y24_16.k, .int .i64 y24_16.n, S y24_16.s]) h rfl rfl rfl (d_call [_] rfl Tryz.call24 (value_Bool_ok (x0 := z23_15) hy24_16)) fun w X a h => ?_
    have H := H.ext X
    refine z_store h H 1 rfl rfl rfl Tryz.sizeOf25 [_, _, _] rfl rfl rfl (by simp) [_, _, _] rfl (hl' := [_, _]) rfl fun w H => ?_
    refine c_nil hK ?_
    have h := h.only [4] (l' := [_]) rfl
    obtain rfl := so hS
    refine c_ret (hret4 _ _ (out1 h rfl ⟨_, rfl, run_loadVar_agg (vs := [_, _, _]) Tryz.isAgg25 Tryz.sizeOf25 (H.hp.get 1 rfl) rfl rfl⟩ ?_))
    exact ⟨rfl, H.out⟩
   ·
    have hS := ifF ec14 hS
    refine c_region fun K hK => ?_
    obtain ⟨z26_17, ez26_17, hS⟩ := bv hS
    refine st1 h rfl rfl rfl (vB ez26_17 (v_seq rfl rfl)) fun a h => ?_
    refine st1 h rfl rfl rfl (v_assign rfl) fun a h => ?_
    refine c_nil hK ?_
    have h := h.only [3, 4, 6, 25] (l' := [_, _, _, _]) rfl
    refine c_cond h rfl (fun ec18 => ?_) (fun ec18 => ?_)
    ·
     have hS := ifT ec18 hS
     refine c_region fun K hK => ?_
     refine st1 h rfl rfl rfl (v_fieldAddr rfl Tryz.underlying25 rfl Tryz.sizeOf3 rfl rfl) fun a h => ?_
     refine st1 h rfl rfl rfl (v_load1 rfl Tryz.isAgg3 (H.hp.get 0 rfl) rfl) fun a h => ?_
     obtain ⟨z29_19, ez29_19, hS⟩ := bv hS
     refine st1 h rfl rfl rfl (vB ez29_19 (v_eq rfl rfl)) fun a h => ?_
     obtain ⟨y30_20, hy30_20, hS⟩ := bo hS
     refine st2v (T := Ext) (V := .agg #[.int .i64 y30_20.k, .int .i64 y30_20.n, S y30_20.s]) h rfl rfl rfl (d_call [_] rfl Tryz.call24 (value_Bool_ok (x0 := z29_19) hy30_20)) fun w X a h => ?_
     have H := H.ext X
     refine z_store h H 1 rfl rfl rfl Tryz.sizeOf25 [_, _, _] rfl rfl rfl (by simp) [_, _, _] rfl (hl' := [_, _]) rfl fun w H => ?_
     refine c_nil hK ?_
     have h := h.only [4] (l' := [_]) rfl
     obtain rfl := so hS
     refine c_ret (hret4 _ _ (out1 h rfl ⟨_, rfl, run_loadVar_agg (vs := [_, _, _]) Tryz.isAgg25 Tryz.sizeOf25 (H.hp.get 1 rfl) rfl rfl⟩ ?_))
     exact ⟨rfl, H.out⟩
    ·
     have hS := ifF ec18 hS
     refine c_region fun K hK => ?_
     obtain ⟨z32_21, ez32_21, hS⟩ := bv hS
     refine st1 h rfl rfl rfl (vB ez32_21 (v_seq rfl rfl)) fun a h => ?_
     refine st1 h rfl rfl rfl (v_assign rfl) fun a h => ?_
     refine c_nil hK ?_
     refine c_cond h rfl (fun ec22 => ?_) (fun ec22 => ?_)
     ·
      have hS := ifT ec22 hS
      refine c_region fun K hK => ?_
      refine st1 h rfl rfl rfl (v_fieldAddr rfl Tryz.underlying25 rfl Tryz.sizeOf3 rfl rfl) fun a h => ?_
      refine st1 h rfl rfl rfl (v_load1 rfl Tryz.isAgg3 (H.hp.get 0 rfl) rfl) fun a h => ?_
      obtain ⟨z35_23, ez35_23, hS⟩ := bv hS
      refine st1 h rfl rfl rfl (vB ez35_23 (v_eq rfl rfl)) fun a h => ?_
      obtain ⟨y36_24, hy36_24, hS⟩ := bo hS
      refine st2v (T := Ext) (V := .agg #[.int .i64 y36_24.k, .int .i64 y36_24.n, S y36_24.s]) h rfl rfl rfl (d_call [_] rfl Tryz.call24 (value_Bool_ok (x0 := z35_23) hy36_24)) fun w X a h => ?_
      have H := H.ext X
      refine z_store h H 1 rfl rfl rfl Tryz.sizeOf25 [_, _, _] rfl rfl rfl (by simp) [_, _, _] rfl (hl' := [_, _]) rfl fun w H => ?_
      refine c_nil hK ?_
      have h := h.only [4] (l' := [_]) rfl
      obtain rfl := so hS
      refine c_ret (hret4 _ _ (out1 h rfl ⟨_, rfl, run_loadVar_agg (vs := [_, _, _]) Tryz.isAgg25 Tryz.sizeOf25 (H.hp.get 1 rfl) rfl rfl⟩ ?_))
      exact ⟨rfl, H.out⟩
     ·
      have hS := ifF ec22 hS
      refine c_region fun K hK => ?_
      obtain ⟨z38_25, ez38_25, hS⟩ := bv hS
      refine st1 h rfl rfl rfl (vB ez38_25 (v_seq rfl rfl)) fun a h => ?_
      refine st1 h rfl rfl rfl (v_assign rfl) fun a h => ?_
      refine c_nil hK ?_
      have h := h.only [3, 4, 37] (l' := [_, _, _]) rfl
      refine c_cond h rfl (fun ec26 => ?_) (fun ec26 => ?_)
      ·
       have hS := ifT ec26 hS
       refine c_region fun K hK => ?_
       refine st1 h rfl rfl rfl (v_loadA [_, _, _] rfl Tryz.isAgg25 Tryz.sizeOf25 (H.hp.get 0 rfl) rfl rfl) fun a h => ?_
       obtain ⟨y40_27, hy40_27, hS⟩ := bo hS
       refine st2v (T := Ext) (V := .agg #[.int .i64 y40_27.k, .int .i64 y40_27.n, S y40_27.s]) h rfl rfl rfl (d_call [_] rfl Tryz.call94 (value_ToBool_ok (x0 := x1) hy40_27)) fun w X a h => ?_
       have H := H.ext X
       refine z_alloc h H Tryz.zeroValue25 [_, _, _] rfl rfl fun a p5_28 w X H h => ?_
       have H : HZ w0 _ _ [_, _, _] _ := H
       refine z_store h H 2 rfl rfl rfl Tryz.sizeOf25 [_, _, _] rfl rfl rfl (by simp) [_, _, _] rfl (hl' := [_, _, _]) rfl fun w H => ?_
       refine c_nil hK ?_
       have h := h.only [4, 5] (l' := [_, _]) rfl
       refine c_seq _ (fun a w c => c) fun Q29 hN29 hO29 => ?_
       have hret29 := hO29.ret hret4
       have hx0_29 := hO29.exit (i := 0) rfl hx0_4
       refine c_region fun K hK => ?_
       refine st1 h rfl rfl rfl (v_fieldAddr rfl Tryz.underlying25 rfl Tryz.sizeOf3 rfl rfl) fun a h => ?_
       refine st1 h rfl rfl rfl (v_load1 rfl Tryz.isAgg3 (H.hp.get 2 rfl) rfl) fun a h => ?_
       obtain ⟨z43_30, ez43_30, hS⟩ := bv hS
       refine st1 h rfl rfl rfl (vB ez43_30 (v_eq rfl rfl)) fun a h => ?_
       refine c_nil hK ?_
       refine c_cond h rfl (fun ec31 => ?_) (fun ec31 => ?_)
       ·
        have hS := ifT ec31 hS
        refine c_region fun K hK => ?_
        refine st1 h rfl rfl rfl (v_loadA [_, _, _] rfl Tryz.isAgg25 Tryz.sizeOf25 (H.hp.get 2 rfl) rfl rfl) fun a h => ?_
        refine z_store h H 1 rfl rfl rfl Tryz.sizeOf25 [_, _, _] rfl rfl rfl (by simp) [_, _, _] rfl (hl' := [_, _, _]) rfl fun w H => ?_
        refine c_nil hK ?_
        have h := h.only [4] (l' := [_]) rfl
        obtain rfl := so hS
        refine c_ret (hret29 _ _ (out1 h rfl ⟨_, rfl, run_loadVar_agg (vs := [_, _, _]) Tryz.isAgg25 Tryz.sizeOf25 (H.hp.get 1 rfl) rfl rfl⟩ ?_))
        exact ⟨rfl, H.out⟩
       ·
        have hS := ifF ec31 hS
        refine c_skip ?_
        refine hN29 _ _ ?_
        refine c_region fun K hK => ?_
        refine st1 h rfl rfl rfl (v_fieldAddr rfl Tryz.underlying25 rfl Tryz.sizeOf2 rfl rfl) fun a h => ?_
        refine st1 h rfl rfl rfl (v_load1 rfl Tryz.isAgg2 (H.hp.get 2 rfl) rfl) fun a h => ?_
        obtain ⟨z47_32, ez47_32, hS⟩ := bv hS
        refine st1 h rfl rfl rfl (vB ez47_32 (v_eq rfl rfl)) fun a h => ?_
        obtain ⟨y48_33, hy48_33, hS⟩ := bo hS
        refine st2v (T := Ext) (V := .agg #[.int .i64 y48_33.k, .int .i64 y48_33.n, S y48_33.s]) h rfl rfl rfl (d_call [_] rfl Tryz.call24 (value_Bool_ok (x0 := z47_32) hy48_33)) fun w X a h => ?_
        have H := H.ext X
        refine z_store h H 1 rfl rfl rfl Tryz.sizeOf25 [_, _, _] rfl rfl rfl (by simp) [_, _, _] rfl (hl' := [_, _, _]) rfl fun w H => ?_
        refine c_nil hK ?_
        have h := h.only [4] (l' := [_]) rfl
        obtain rfl := so hS
        refine c_ret (hret4 _ _ (out1 h rfl ⟨_, rfl, run_loadVar_agg (vs := [_, _, _]) Tryz.isAgg25 Tryz.sizeOf25 (H.hp.get 1 rfl) rfl rfl⟩ ?_))
        exact ⟨rfl, H.out⟩
      ·
       have hS := ifF ec26 hS
       refine c_skip ?_
       refine hN4 _ _ ?_
       refine hN3 _ _ ?_
       refine c_region fun K hK => ?_
       obtain ⟨y49_34, hy49_34, hS⟩ := bo hS
       refine st2v (T := Ext) (V := .agg #[.int .i64 y49_34.k, .int .i64 y49_34.n, S y49_34.s]) h rfl rfl rfl (d_call [_] rfl Tryz.call13 (value_Fail_ok (x0 := (2 : Int)) hy49_34)) fun w X a h => ?_
       have H := H.ext X
       refine z_store h H 1 rfl rfl rfl Tryz.sizeOf25 [_, _, _] rfl rfl rfl (by simp) [_, _, _] rfl (hl' := [_, _]) rfl fun w H => ?_
       refine c_nil hK ?_
       obtain rfl := so hS
       refine c_ret (hret0 _ _ (out1 h rfl ⟨_, rfl, run_loadVar_agg (vs := [_, _, _]) Tryz.isAgg25 Tryz.sizeOf25 (H.hp.get 1 rfl) rfl rfl⟩ ?_))
       exact ⟨rfl, H.out⟩

theorem funcs_list_ok {x0 : List UInt8} {x1 : List (Arg)} {res : V} {w0 : World} (hS : funcs_list x0 x1 = some res) {xv1 : Value} (rp1 : RdN (hz w0) xv1 argEnc x1) : Calls Tryz.prog 30 [S x0, xv1].toArray w0 (Ret fun v w => v = .agg #[.int .i64 res.k, .int .i64 res.n, S res.s] ∧ Ext w0 w) := by
 refine enter Tryz.func30 rfl rfl rfl fun Q a h hret0 hnor => ?_
 obtain ⟨Zi, Z, H, rp1⟩ : ∃ Zi Z, HZ w0 Zi Z [] w0 ∧ RdN Z xv1 argEnc x1 := ⟨_, _, HZ.start w0, rp1⟩
 have h := h.only [0, 1] (l' := [_, _]) rfl
 unfold funcs_list at hS
 refine c_region fun K hK => ?_
 refine z_alloc h H Tryz.zeroValue25 [_, _, _] rfl rfl fun a p4_1 w X H h => ?_
 have H : HZ w0 _ _ [_] _ := H
 refine c_nil hK ?_
 refine c_seq _ (fun a w c => c) fun Q2 hN2 hO2 => ?_
 have hret2 := hO2.ret hret0
 refine c_region fun K hK => ?_
 refine st1 h rfl rfl rfl (v_move rfl) fun a h => ?_
 refine c_nil hK ?_
 refine c_lblock fun Q3 hN3 hx0_3 hO3 => ?_
 have hret3 := hO3.ret hret2
 obtain ⟨J5, eJ5, hS⟩ := bv hS
 refine c_seq (fun a w => ∃ (Z : FZ) (s5 : Bool), J5 s5 = some res ∧ Fr 186 [(0, S x0), (1, xv1), (4, .pointer (some ⟨p4_1, 0, none⟩)), (9, S x0), (10, .bool s5)] a ∧ HZ w0 Zi Z [.blk p4_1 (Cel [.int .i64 0, .int .i64 0, S []] 25)] w ∧ RdN Z xv1 argEnc x1) ?_ fun Q4 hN4 hO4 => ?_
 ·
  rintro a w ⟨Z, s5, hS, h, H, rp1⟩
  subst eJ5
  refine c_cond h rfl (fun ec6 => ?_) (fun ec6 => ?_)
  ·
   have hS := ifT ec6 hS
   refine c_region fun K hK => ?_
   refine st1 h rfl rfl rfl (v_move rfl) fun a h => ?_
   obtain ⟨z14_7, ez14_7, hS⟩ := bv hS
   refine st1 h rfl rfl rfl (vB ez14_7 (v_seq rfl rfl)) fun a h => ?_
   refine st1 h rfl rfl rfl (v_move rfl) fun a h => ?_
   obtain ⟨y16_8, hy16_8, hS⟩ := bo hS
   refine z_callR (data := y16_8) h H rfl rfl rfl (d_call [_] rfl Tryz.call61 (funcs_all_ok (x0 := x1) hy16_8 (rp1.hz H.zin))) fun v16_9 Z w hsub X H r16_9 a h => ?_
   have rp1 := rp1.sub hsub
   obtain ⟨y17_10, hy17_10, hS⟩ := bo hS
   refine st2v (T := Ext) (V := .agg #[.int .i64 y17_10.k, .int .i64 y17_10.n, S y17_10.s]) h rfl rfl rfl (d_call [_, _] rfl Tryz.call60 (lists_Extreme_ok (x0 := z14_7) (x1 := y16_8) hy17_10 (r16_9.hz H.zin))) fun w X a h => ?_
   have H := H.ext X
   refine z_store h H 0 rfl rfl rfl Tryz.sizeOf25 [_, _, _] rfl rfl rfl (by simp) [_, _, _] rfl (hl' := [_]) rfl fun w H => ?_
   refine c_nil hK ?_
   have h := h.only [4] (l' := [_]) rfl
   obtain rfl := so hS
   refine c_ret (hret3 _ _ (out1 h rfl ⟨_, rfl, run_loadVar_agg (vs := [_, _, _]) Tryz.isAgg25 Tryz.sizeOf25 (H.hp.get 0 rfl) rfl rfl⟩ ?_))
   exact ⟨rfl, H.out⟩
  ·
   have hS := ifF ec6 hS
   refine c_region fun K hK => ?_
   obtain ⟨z19_11, ez19_11, hS⟩ := bv hS
   refine st1 h rfl rfl rfl (vB ez19_11 (v_seq rfl rfl)) fun a h => ?_
   refine st1 h rfl rfl rfl (v_assign rfl) fun a h => ?_
   refine c_nil hK ?_
   refine c_cond h rfl (fun ec12 => ?_) (fun ec12 => ?_)
   ·
    have hS := ifT ec12 hS
    refine c_region fun K hK => ?_
    refine st1 h rfl rfl rfl (v_move rfl) fun a h => ?_
    obtain ⟨y21_13, hy21_13, hS⟩ := bo hS
    refine z_callR (data := y21_13) h H rfl rfl rfl (d_call [_] rfl Tryz.call61 (funcs_all_ok (x0 := x1) hy21_13 (rp1.hz H.zin))) fun v21_14 Z w hsub X H r21_14 a h => ?_
    have rp1 := rp1.sub hsub
    obtain ⟨y22_15, hy22_15, hS⟩ := bo hS
    refine st2v (T := Ext) (V := .agg #[.int .i64 y22_15.k, .int .i64 y22_15.n, S y22_15.s]) h rfl rfl rfl (d_call [_] rfl Tryz.call62 (lists_Sum_ok (x0 := y21_13) hy22_15 (r21_14.hz H.zin))) fun w X a h => ?_
    have H := H.ext X
    refine z_store h H 0 rfl rfl rfl Tryz.sizeOf25 [_, _, _] rfl rfl rfl (by simp) [_, _, _] rfl (hl' := [_]) rfl fun w H => ?_
    refine c_nil hK ?_
    have h := h.only [4] (l' := [_]) rfl
    obtain rfl := so hS
    refine c_ret (hret3 _ _ (out1 h rfl ⟨_, rfl, run_loadVar_agg (vs := [_, _, _]) Tryz.isAgg25 Tryz.sizeOf25 (H.hp.get 0 rfl) rfl rfl⟩ ?_))
    exact ⟨rfl, H.out⟩
   ·
    have hS := ifF ec12 hS
    refine c_region fun K hK => ?_
    obtain ⟨z24_16, ez24_16, hS⟩ := bv hS
    refine st1 h rfl rfl rfl (vB ez24_16 (v_seq rfl rfl)) fun a h => ?_
    refine st1 h rfl rfl rfl (v_assign rfl) fun a h => ?_
    refine c_nil hK ?_
    have h := h.only [0, 1, 4, 9, 23] (l' := [_, _, _, _, _]) rfl
    refine c_cond h rfl (fun ec17 => ?_) (fun ec17 => ?_)
    ·
     have hS := ifT ec17 hS
     refine c_region fun K hK => ?_
     refine st1 h rfl rfl rfl (v_move rfl) fun a h => ?_
     obtain ⟨y26_18, hy26_18, hS⟩ := bo hS
     refine z_callR (data := y26_18) h H rfl rfl rfl (d_call [_] rfl Tryz.call61 (funcs_all_ok (x0 := x1) hy26_18 (rp1.hz H.zin))) fun v26_19 Z w hsub X H r26_19 a h => ?_
     have rp1 := rp1.sub hsub
     obtain ⟨y27_20, hy27_20, hS⟩ := bo hS
     refine st2v (T := Ext) (V := .agg #[.int .i64 y27_20.k, .int .i64 y27_20.n, S y27_20.s]) h rfl rfl rfl (d_call [_] rfl Tryz.call63 (lists_Product_ok (x0 := y26_18) hy27_20 (r26_19.hz H.zin))) fun w X a h => ?_
     have H := H.ext X
     refine z_store h H 0 rfl rfl rfl Tryz.sizeOf25 [_, _, _] rfl rfl rfl (by simp) [_, _, _] rfl (hl' := [_]) rfl fun w H => ?_
     refine c_nil hK ?_
     have h := h.only [4] (l' := [_]) rfl
     obtain rfl := so hS
     refine c_ret (hret3 _ _ (out1 h rfl ⟨_, rfl, run_loadVar_agg (vs := [_, _, _]) Tryz.isAgg25 Tryz.sizeOf25 (H.hp.get 0 rfl) rfl rfl⟩ ?_))
     exact ⟨rfl, H.out⟩
    ·
     have hS := ifF ec17 hS
     refine c_region fun K hK => ?_
     obtain ⟨z29_21, ez29_21, hS⟩ := bv hS
     refine st1 h rfl rfl rfl (vB ez29_21 (v_seq rfl rfl)) fun a h => ?_
     refine st1 h rfl rfl rfl (v_assign rfl) fun a h => ?_
     refine c_nil hK ?_
     refine c_cond h rfl (fun ec22 => ?_) (fun ec22 => ?_)
     ·
      have hS := ifT ec22 hS
      refine c_region fun K hK => ?_
      refine st1 h rfl rfl rfl (v_move rfl) fun a h => ?_
      obtain ⟨y31_23, hy31_23, hS⟩ := bo hS
      refine z_callR (data := y31_23) h H rfl rfl rfl (d_call [_] rfl Tryz.call61 (funcs_all_ok (x0 := x1) hy31_23 (rp1.hz H.zin))) fun v31_24 Z w hsub X H r31_24 a h => ?_
      have rp1 := rp1.sub hsub
      obtain ⟨y32_25, hy32_25, hS⟩ := bo hS
      refine st2v (T := Ext) (V := .agg #[.int .i64 y32_25.k, .int .i64 y32_25.n, S y32_25.s]) h rfl rfl rfl (d_call [_, _, _] rfl Tryz.call64 (lists_Count_ok (x0 := (1 : Int)) (x1 := true) (x2 := y31_23) hy32_25 (r31_24.hz H.zin))) fun w X a h => ?_
      have H := H.ext X
      refine z_store h H 0 rfl rfl rfl Tryz.sizeOf25 [_, _, _] rfl rfl rfl (by simp) [_, _, _] rfl (hl' := [_]) rfl fun w H => ?_
      refine c_nil hK ?_
      have h := h.only [4] (l' := [_]) rfl
      obtain rfl := so hS
      refine c_ret (hret3 _ _ (out1 h rfl ⟨_, rfl, run_loadVar_agg (vs := [_, _, _]) Tryz.isAgg25 Tryz.sizeOf25 (H.hp.get 0 rfl) rfl rfl⟩ ?_))
      exact ⟨rfl, H.out⟩
     ·
      have hS := ifF ec22 hS
      refine c_region fun K hK => ?_
      obtain ⟨z34_26, ez34_26, hS⟩ := bv hS
      refine st1 h rfl rfl rfl (vB ez34_26 (v_seq rfl rfl)) fun a h => ?_
      refine st1 h rfl rfl rfl (v_assign rfl) fun a h => ?_
      refine c_nil hK ?_
      have h := h.only [0, 1, 4, 9, 33] (l' := [_, _, _, _, _]) rfl
      refine c_cond h rfl (fun ec27 => ?_) (fun ec27 => ?_)
      ·
       have hS := ifT ec27 hS
       refine c_region fun K hK => ?_
       refine st1 h rfl rfl rfl (v_move rfl) fun a h => ?_
       obtain ⟨y36_28, hy36_28, hS⟩ := bo hS
       refine z_callR (data := y36_28) h H rfl rfl rfl (d_call [_] rfl Tryz.call61 (funcs_all_ok (x0 := x1) hy36_28 (rp1.hz H.zin))) fun v36_29 Z w hsub X H r36_29 a h => ?_
       have rp1 := rp1.sub hsub
       obtain ⟨y37_30, hy37_30, hS⟩ := bo hS
       refine st2v (T := Ext) (V := .agg #[.int .i64 y37_30.k, .int .i64 y37_30.n, S y37_30.s]) h rfl rfl rfl (d_call [_, _, _] rfl Tryz.call64 (lists_Count_ok (x0 := (0 : Int)) (x1 := false) (x2 := y36_28) hy37_30 (r36_29.hz H.zin))) fun w X a h => ?_
       have H := H.ext X
       refine z_store h H 0 rfl rfl rfl Tryz.sizeOf25 [_, _, _] rfl rfl rfl (by simp) [_, _, _] rfl (hl' := [_]) rfl fun w H => ?_
       refine c_nil hK ?_
       have h := h.only [4] (l' := [_]) rfl
       obtain rfl := so hS
       refine c_ret (hret3 _ _ (out1 h rfl ⟨_, rfl, run_loadVar_agg (vs := [_, _, _]) Tryz.isAgg25 Tryz.sizeOf25 (H.hp.get 0 rfl) rfl rfl⟩ ?_))
       exact ⟨rfl, H.out⟩
      ·
       have hS := ifF ec27 hS
       refine c_region fun K hK => ?_
       obtain ⟨z39_31, ez39_31, hS⟩ := bv hS
       refine st1 h rfl rfl rfl (vB ez39_31 (v_seq rfl rfl)) fun a h => ?_
       refine st1 h rfl rfl rfl (v_assign rfl) fun a h => ?_
       refine c_nil hK ?_
       refine c_cond h rfl (fun ec32 => ?_) (fun ec32 => ?_)
       ·
        have hS := ifT ec32 hS
        refine c_region fun K hK => ?_
        refine st1 h rfl rfl rfl (v_move rfl) fun a h => ?_
        obtain ⟨y41_33, hy41_33, hS⟩ := bo hS
        refine z_callR (data := y41_33) h H rfl rfl rfl (d_call [_] rfl Tryz.call61 (funcs_all_ok (x0 := x1) hy41_33 (rp1.hz H.zin))) fun v41_34 Z w hsub X H r41_34 a h => ?_
        have rp1 := rp1.sub hsub
        obtain ⟨y42_35, hy42_35, hS⟩ := bo hS
        refine st2v (T := Ext) (V := .agg #[.int .i64 y42_35.k, .int .i64 y42_35.n, S y42_35.s]) h rfl rfl rfl (d_call [_, _, _] rfl Tryz.call64 (lists_Count_ok (x0 := (0 : Int)) (x1 := true) (x2 := y41_33) hy42_35 (r41_34.hz H.zin))) fun w X a h => ?_
        have H := H.ext X
        refine z_store h H 0 rfl rfl rfl Tryz.sizeOf25 [_, _, _] rfl rfl rfl (by simp) [_, _, _] rfl (hl' := [_]) rfl fun w H => ?_
        refine c_nil hK ?_
        have h := h.only [4] (l' := [_]) rfl
        obtain rfl := so hS
        refine c_ret (hret3 _ _ (out1 h rfl ⟨_, rfl, run_loadVar_agg (vs := [_, _, _]) Tryz.isAgg25 Tryz.sizeOf25 (H.hp.get 0 rfl) rfl rfl⟩ ?_))
        exact ⟨rfl, H.out⟩
       ·
        have hS := ifF ec32 hS
        refine c_region fun K hK => ?_
        obtain ⟨z44_36, ez44_36, hS⟩ := bv hS
        refine st1 h rfl rfl rfl (vB ez44_36 (v_seq rfl rfl)) fun a h => ?_
        refine st1 h rfl rfl rfl (v_assign rfl) fun a h => ?_
        refine c_nil hK ?_
        have h := h.only [0, 1, 4, 9, 43] (l' := [_, _, _, _, _]) rfl
        refine c_cond h rfl (fun ec37 => ?_) (fun ec37 => ?_)
        ·
         have hS := ifT ec37 hS
         refine c_region fun K hK => ?_
         refine st1 h rfl rfl rfl (v_move rfl) fun a h => ?_
         obtain ⟨y46_38, hy46_38, hS⟩ := bo hS
         refine z_callR (data := y46_38) h H rfl rfl rfl (d_call [_] rfl Tryz.call61 (funcs_all_ok (x0 := x1) hy46_38 (rp1.hz H.zin))) fun v46_39 Z w hsub X H r46_39 a h => ?_
         have rp1 := rp1.sub hsub
         obtain ⟨y47_40, hy47_40, hS⟩ := bo hS
         refine st2v (T := Ext) (V := .agg #[.int .i64 y47_40.k, .int .i64 y47_40.n, S y47_40.s]) h rfl rfl rfl (d_call [_] rfl Tryz.call65 (lists_Average_ok (x0 := y46_38) hy47_40 (r46_39.hz H.zin))) fun w X a h => ?_
         have H := H.ext X
         refine z_store h H 0 rfl rfl rfl Tryz.sizeOf25 [_, _, _] rfl rfl rfl (by simp) [_, _, _] rfl (hl' := [_]) rfl fun w H => ?_
         refine c_nil hK ?_
         have h := h.only [4] (l' := [_]) rfl
         obtain rfl := so hS
         refine c_ret (hret3 _ _ (out1 h rfl ⟨_, rfl, run_loadVar_agg (vs := [_, _, _]) Tryz.isAgg25 Tryz.sizeOf25 (H.hp.get 0 rfl) rfl rfl⟩ ?_))
         exact ⟨rfl, H.out⟩
        ·
         have hS := ifF ec37 hS
         refine c_region fun K hK => ?_
         obtain ⟨z49_41, ez49_41, hS⟩ := bv hS
         refine st1 h rfl rfl rfl (vB ez49_41 (v_seq rfl rfl)) fun a h => ?_
         refine st1 h rfl rfl rfl (v_assign rfl) fun a h => ?_
         refine c_nil hK ?_
         refine c_cond h rfl (fun ec42 => ?_) (fun ec42 => ?_)
         ·
          have hS := ifT ec42 hS
          refine c_flowT 9 h (by kernel_rfl) (by kernel_rfl) fun K hK => ?_
          refine f1 [1] rfl rfl rfl rfl (fun w X => v_move rfl) ?_
          obtain ⟨c43, hS⟩ := ck hS
          obtain ⟨z51_44, ez51_44, hS⟩ := bv hS
          obtain ⟨css_45, cl_45, rc_45, hc_45, v51_45_1, hcs_45, r51_45_1⟩ := (rp1).get (p := 1) (x := z51_44) (by rw [ez51_44]; exact gel_some c43)
          refine f_op [50] rfl rfl rfl rfl false (.rel (fun w' v' => At w' v' (fun _ : Unit => [.bool z51_44.area, .int .i64 z51_44.cols, v51_45_1]) () 0)) at_stab (fun w X => ?_) ?_
          ·
           skip
           exact have H := H.ext X; d_idxC Tryz.underlying27 Tryz.sizeOf29 rfl rfl (rc_45.at H.zin) c43.1 hc_45 hcs_45
          refine f_op [51] rfl rfl rfl rfl false (.eq (.agg #[.bool z51_44.area, .int .i64 z51_44.cols, v51_45_1])) trivial (fun w X => ?_) ?_
          ·
           intro v51 h51
           exact (v_loadAtA [_, _, _] rfl h51 Tryz.isAgg29 Tryz.sizeOf29 rfl rfl).doesF
          obtain ⟨y53_46, hy53_46, hS⟩ := bo hS
          refine f2 (V := .agg #[.int .i64 y53_46.k, .int .i64 y53_46.n, S y53_46.s]) [52] rfl rfl rfl rfl (fun w X => have H := H.ext X; d_call [_] rfl Tryz.call58 (funcs_single_ok (x0 := z51_44) hy53_46 (r51_45_1.hz H.zin))) ?_
          refine f1 [1] rfl rfl rfl rfl (fun w X => v_move rfl) ?_
          obtain ⟨c47, hS⟩ := ck hS
          obtain ⟨z55_48, ez55_48, hS⟩ := bv hS
          obtain ⟨css_49, cl_49, rc_49, hc_49, v55_49_1, hcs_49, r55_49_1⟩ := (rp1).get (p := 0) (x := z55_48) (by rw [ez55_48]; exact gel_some c47)
          refine f_op [54] rfl rfl rfl rfl false (.rel (fun w' v' => At w' v' (fun _ : Unit => [.bool z55_48.area, .int .i64 z55_48.cols, v55_49_1]) () 0)) at_stab (fun w X => ?_) ?_
          ·
           skip
           exact have H := H.ext X; d_idxC Tryz.underlying27 Tryz.sizeOf29 rfl rfl (rc_49.at H.zin) c47.1 hc_49 hcs_49
          refine f_op [55] rfl rfl rfl rfl false (.rel (fun w' v' => At w' v' (fun _ : Unit => [.bool z55_48.area, .int .i64 z55_48.cols, v55_49_1]) () 2)) at_stab (fun w X => ?_) ?_
          ·
           intro v55 h55
           exact d_field rfl h55 Tryz.underlying29 rfl Tryz.sizeOf22 rfl rfl
          refine f_op [56] rfl rfl rfl rfl false (.eq (v55_49_1)) trivial (fun w X => ?_) ?_
          ·
           intro v56 h56
           exact (v_loadAt1 rfl h56 Tryz.isAgg22 rfl).doesF
          obtain ⟨y58_50, hy58_50, hS⟩ := bo hS
          refine f2 (V := .agg #[.int .i64 y58_50.k, .int .i64 y58_50.n, S y58_50.s]) [53, 57] rfl rfl rfl rfl (fun w X => have H := H.ext X; d_call [_, _] rfl Tryz.call66 (lists_CountIf_ok (x0 := y53_46) (x1 := z55_48.l) hy58_50 (r55_49_1.hz H.zin))) ?_
          refine fn_ ?_
          intro a w X hR hA
          have h := hR.out [4, 58]
          have h : Fr 186 [(58, _), (4, _)] a := h
          have H := H.ext X
          refine z_store h H 0 rfl rfl rfl Tryz.sizeOf25 [_, _, _] rfl rfl rfl (by simp) [_, _, _] rfl (hl' := [_]) rfl fun w H => ?_
          refine c_nil hK ?_
          obtain rfl := so hS
          refine c_ret (hret3 _ _ (out1 h rfl ⟨_, rfl, run_loadVar_agg (vs := [_, _, _]) Tryz.isAgg25 Tryz.sizeOf25 (H.hp.get 0 rfl) rfl rfl⟩ ?_))
          exact ⟨rfl, H.out⟩
         ·
          have hS := ifF ec42 hS
          refine c_region fun K hK => ?_
          obtain ⟨z60_51, ez60_51, hS⟩ := bv hS
          refine st1 h rfl rfl rfl (vB ez60_51 (v_seq rfl rfl)) fun a h => ?_
          refine st1 h rfl rfl rfl (v_assign rfl) fun a h => ?_
          refine c_nil hK ?_
          have h := h.only [0, 1, 4, 9, 59] (l' := [_, _, _, _, _]) rfl
          refine c_cond h rfl (fun ec52 => ?_) (fun ec52 => ?_)
          ·
           have hS := ifT ec52 hS
           refine c_flowT 9 h (by kernel_rfl) (by kernel_rfl) fun K hK => ?_
           refine f1 [1] rfl rfl rfl rfl (fun w X => v_move rfl) ?_
           obtain ⟨c53, hS⟩ := ck hS
           obtain ⟨z62_54, ez62_54, hS⟩ := bv hS
           obtain ⟨css_55, cl_55, rc_55, hc_55, v62_55_1, hcs_55, r62_55_1⟩ := (rp1).get (p := 1) (x := z62_54) (by rw [ez62_54]; exact gel_some c53)
           refine f_op [61] rfl rfl rfl rfl false (.rel (fun w' v' => At w' v' (fun _ : Unit => [.bool z62_54.area, .int .i64 z62_54.cols, v62_55_1]) () 0)) at_stab (fun w X => ?_) ?_
           ·
            skip
            exact have H := H.ext X; d_idxC Tryz.underlying27 Tryz.sizeOf29 rfl rfl (rc_55.at H.zin) c53.1 hc_55 hcs_55
           refine f_op [62] rfl rfl rfl rfl false (.eq (.agg #[.bool z62_54.area, .int .i64 z62_54.cols, v62_55_1])) trivial (fun w X => ?_) ?_
           ·
            intro v62 h62
            exact (v_loadAtA [_, _, _] rfl h62 Tryz.isAgg29 Tryz.sizeOf29 rfl rfl).doesF
           obtain ⟨y64_56, hy64_56, hS⟩ := bo hS
           refine f2 (V := .agg #[.int .i64 y64_56.k, .int .i64 y64_56.n, S y64_56.s]) [63] rfl rfl rfl rfl (fun w X => have H := H.ext X; d_call [_] rfl Tryz.call58 (funcs_single_ok (x0 := z62_54) hy64_56 (r62_55_1.hz H.zin))) ?_
           refine f1 [1] rfl rfl rfl rfl (fun w X => v_move rfl) ?_
           obtain ⟨c57, hS⟩ := ck hS
           obtain ⟨z66_58, ez66_58, hS⟩ := bv hS
           obtain ⟨css_59, cl_59, rc_59, hc_59, v66_59_1, hcs_59, r66_59_1⟩ := (rp1).get (p := 0) (x := z66_58) (by rw [ez66_58]; exact gel_some c57)
           refine f_op [65] rfl rfl rfl rfl false (.rel (fun w' v' => At w' v' (fun _ : Unit => [.bool z66_58.area, .int .i64 z66_58.cols, v66_59_1]) () 0)) at_stab (fun w X => ?_) ?_
           ·
            skip
            exact have H := H.ext X; d_idxC Tryz.underlying27 Tryz.sizeOf29 rfl rfl (rc_59.at H.zin) c57.1 hc_59 hcs_59
           refine f_op [66] rfl rfl rfl rfl false (.rel (fun w' v' => At w' v' (fun _ : Unit => [.bool z66_58.area, .int .i64 z66_58.cols, v66_59_1]) () 2)) at_stab (fun w X => ?_) ?_
           ·
            intro v66 h66
            exact d_field rfl h66 Tryz.underlying29 rfl Tryz.sizeOf22 rfl rfl
           refine f_op [67] rfl rfl rfl rfl false (.eq (v66_59_1)) trivial (fun w X => ?_) ?_
           ·
            intro v67 h67
            exact (v_loadAt1 rfl h67 Tryz.isAgg22 rfl).doesF
           obtain ⟨y69_60, hy69_60, hS⟩ := bo hS
           refine f2 (V := .agg #[.int .i64 y69_60.k, .int .i64 y69_60.n, S y69_60.s]) [64, 68] rfl rfl rfl rfl (fun w X => have H := H.ext X; d_call [_, _] rfl Tryz.call67 (lists_SumIf_ok (x0 := y64_56) (x1 := z66_58.l) hy69_60 (r66_59_1.hz H.zin))) ?_
           refine fn_ ?_
           intro a w X hR hA
           have h := hR.out [4, 69]
           have h : Fr 186 [(69, _), (4, _)] a := h
           have H := H.ext X
           refine z_store h H 0 rfl rfl rfl Tryz.sizeOf25 [_, _, _] rfl rfl rfl (by simp) [_, _, _] rfl (hl' := [_]) rfl fun w H => ?_
           refine c_nil hK ?_
           obtain rfl := so hS
           refine c_ret (hret3 _ _ (out1 h rfl ⟨_, rfl, run_loadVar_agg (vs := [_, _, _]) Tryz.isAgg25 Tryz.sizeOf25 (H.hp.get 0 rfl) rfl rfl⟩ ?_))
           exact ⟨rfl, H.out⟩
          ·
           have hS := ifF ec52 hS
           refine c_region fun K hK => ?_
           obtain ⟨z71_61, ez71_61, hS⟩ := bv hS
           refine st1 h rfl rfl rfl (vB ez71_61 (v_seq rfl rfl)) fun a h => ?_
           refine st1 h rfl rfl rfl (v_assign rfl) fun a h => ?_
           refine c_nil hK ?_
           refine c_cond h rfl (fun ec62 => ?_) (fun ec62 => ?_)
           ·
            have hS := ifT ec62 hS
            refine c_flowT 9 h (by kernel_rfl) (by kernel_rfl) fun K hK => ?_
            refine f1 [1] rfl rfl rfl rfl (fun w X => v_move rfl) ?_
            obtain ⟨c63, hS⟩ := ck hS
            obtain ⟨z73_64, ez73_64, hS⟩ := bv hS
            obtain ⟨css_65, cl_65, rc_65, hc_65, v73_65_1, hcs_65, r73_65_1⟩ := (rp1).get (p := 0) (x := z73_64) (by rw [ez73_64]; exact gel_some c63)
            refine f_op [72] rfl rfl rfl rfl false (.rel (fun w' v' => At w' v' (fun _ : Unit => [.bool z73_64.area, .int .i64 z73_64.cols, v73_65_1]) () 0)) at_stab (fun w X => ?_) ?_
            ·
             skip
             exact have H := H.ext X; d_idxC Tryz.underlying27 Tryz.sizeOf29 rfl rfl (rc_65.at H.zin) c63.1 hc_65 hcs_65
            refine f_op [73] rfl rfl rfl rfl false (.rel (fun w' v' => At w' v' (fun _ : Unit => [.bool z73_64.area, .int .i64 z73_64.cols, v73_65_1]) () 2)) at_stab (fun w X => ?_) ?_
            ·
             intro v73 h73
             exact d_field rfl h73 Tryz.underlying29 rfl Tryz.sizeOf22 rfl rfl
            refine f_op [74] rfl rfl rfl rfl false (.eq (v73_65_1)) trivial (fun w X => ?_) ?_
            ·
             intro v74 h74
             exact (v_loadAt1 rfl h74 Tryz.isAgg22 rfl).doesF
            refine f1 [1] rfl rfl rfl rfl (fun w X => v_move rfl) ?_
            obtain ⟨c66, hS⟩ := ck hS
            obtain ⟨z77_67, ez77_67, hS⟩ := bv hS
            obtain ⟨css_68, cl_68, rc_68, hc_68, v77_68_1, hcs_68, r77_68_1⟩ := (rp1).get (p := 1) (x := z77_67) (by rw [ez77_67]; exact gel_some c66)
            refine f_op [76] rfl rfl rfl rfl false (.rel (fun w' v' => At w' v' (fun _ : Unit => [.bool z77_67.area, .int .i64 z77_67.cols, v77_68_1]) () 0)) at_stab (fun w X => ?_) ?_
            ·
             skip
             exact have H := H.ext X; d_idxC Tryz.underlying27 Tryz.sizeOf29 rfl rfl (rc_68.at H.zin) c66.1 hc_68 hcs_68
            refine f_op [77] rfl rfl rfl rfl false (.rel (fun w' v' => At w' v' (fun _ : Unit => [.bool z77_67.area, .int .i64 z77_67.cols, v77_68_1]) () 2)) at_stab (fun w X => ?_) ?_
            ·
             intro v77 h77
             exact d_field rfl h77 Tryz.underlying29 rfl Tryz.sizeOf22 rfl rfl
            refine f_op [78] rfl rfl rfl rfl false (.eq (v77_68_1)) trivial (fun w X => ?_) ?_
            ·
             intro v78 h78
             exact (v_loadAt1 rfl h78 Tryz.isAgg22 rfl).doesF
            obtain ⟨y80_69, hy80_69, hS⟩ := bo hS
            refine f2 (V := .agg #[.int .i64 y80_69.k, .int .i64 y80_69.n, S y80_69.s]) [75, 79] rfl rfl rfl rfl (fun w X => have H := H.ext X; d_call [_, _] rfl Tryz.call68 (lists_SumProduct_ok (x0 := z73_64.l) (x1 := z77_67.l) hy80_69 (r73_65_1.hz H.zin) (r77_68_1.hz H.zin))) ?_
            refine fn_ ?_
            intro a w X hR hA
            have h := hR.out [4, 80]
            have h : Fr 186 [(80, _), (4, _)] a := h
            have H := H.ext X
            refine z_store h H 0 rfl rfl rfl Tryz.sizeOf25 [_, _, _] rfl rfl rfl (by simp) [_, _, _] rfl (hl' := [_]) rfl fun w H => ?_
            refine c_nil hK ?_
            obtain rfl := so hS
            refine c_ret (hret3 _ _ (out1 h rfl ⟨_, rfl, run_loadVar_agg (vs := [_, _, _]) Tryz.isAgg25 Tryz.sizeOf25 (H.hp.get 0 rfl) rfl rfl⟩ ?_))
            exact ⟨rfl, H.out⟩
           ·
            have hS := ifF ec62 hS
            refine c_region fun K hK => ?_
            obtain ⟨z82_70, ez82_70, hS⟩ := bv hS
            refine st1 h rfl rfl rfl (vB ez82_70 (v_seq rfl rfl)) fun a h => ?_
            refine st1 h rfl rfl rfl (v_assign rfl) fun a h => ?_
            refine c_nil hK ?_
            have h := h.only [0, 1, 4, 9, 81] (l' := [_, _, _, _, _]) rfl
            refine c_cond h rfl (fun ec71 => ?_) (fun ec71 => ?_)
            ·
             have hS := ifT ec71 hS
             refine c_flowT 9 h (by kernel_rfl) (by kernel_rfl) fun K hK => ?_
             refine f1 [1] rfl rfl rfl rfl (fun w X => v_move rfl) ?_
             obtain ⟨c72, hS⟩ := ck hS
             obtain ⟨z84_73, ez84_73, hS⟩ := bv hS
             obtain ⟨css_74, cl_74, rc_74, hc_74, v84_74_1, hcs_74, r84_74_1⟩ := (rp1).get (p := 0) (x := z84_73) (by rw [ez84_73]; exact gel_some c72)
             refine f_op [83] rfl rfl rfl rfl false (.rel (fun w' v' => At w' v' (fun _ : Unit => [.bool z84_73.area, .int .i64 z84_73.cols, v84_74_1]) () 0)) at_stab (fun w X => ?_) ?_
             ·
              skip
              exact have H := H.ext X; d_idxC Tryz.underlying27 Tryz.sizeOf29 rfl rfl (rc_74.at H.zin) c72.1 hc_74 hcs_74
             refine f_op [84] rfl rfl rfl rfl false (.eq (.agg #[.bool z84_73.area, .int .i64 z84_73.cols, v84_74_1])) trivial (fun w X => ?_) ?_
             ·
              intro v84 h84
              exact (v_loadAtA [_, _, _] rfl h84 Tryz.isAgg29 Tryz.sizeOf29 rfl rfl).doesF
             obtain ⟨y86_75, hy86_75, hS⟩ := bo hS
             refine f2 (V := .agg #[.int .i64 y86_75.k, .int .i64 y86_75.n, S y86_75.s]) [85] rfl rfl rfl rfl (fun w X => have H := H.ext X; d_call [_] rfl Tryz.call58 (funcs_single_ok (x0 := z84_73) hy86_75 (r84_74_1.hz H.zin))) ?_
             refine f1 [1] rfl rfl rfl rfl (fun w X => v_move rfl) ?_
             obtain ⟨c76, hS⟩ := ck hS
             obtain ⟨z88_77, ez88_77, hS⟩ := bv hS
             obtain ⟨css_78, cl_78, rc_78, hc_78, v88_78_1, hcs_78, r88_78_1⟩ := (rp1).get (p := 1) (x := z88_77) (by rw [ez88_77]; exact gel_some c76)
             refine f_op [87] rfl rfl rfl rfl false (.rel (fun w' v' => At w' v' (fun _ : Unit => [.bool z88_77.area, .int .i64 z88_77.cols, v88_78_1]) () 0)) at_stab (fun w X => ?_) ?_
             ·
              skip
              exact have H := H.ext X; d_idxC Tryz.underlying27 Tryz.sizeOf29 rfl rfl (rc_78.at H.zin) c76.1 hc_78 hcs_78
             refine f_op [88] rfl rfl rfl rfl false (.rel (fun w' v' => At w' v' (fun _ : Unit => [.bool z88_77.area, .int .i64 z88_77.cols, v88_78_1]) () 2)) at_stab (fun w X => ?_) ?_
             ·
              intro v88 h88
              exact d_field rfl h88 Tryz.underlying29 rfl Tryz.sizeOf22 rfl rfl
             refine f_op [89] rfl rfl rfl rfl false (.eq (v88_78_1)) trivial (fun w X => ?_) ?_
             ·
              intro v89 h89
              exact (v_loadAt1 rfl h89 Tryz.isAgg22 rfl).doesF
             obtain ⟨y91_79, hy91_79, hS⟩ := bo hS
             refine f2 (V := .agg #[.int .i64 y91_79.k, .int .i64 y91_79.n, S y91_79.s]) [86, 90] rfl rfl rfl rfl (fun w X => have H := H.ext X; d_call [_, _] rfl Tryz.call69 (lists_Match_ok (x0 := y86_75) (x1 := z88_77.l) hy91_79 (r88_78_1.hz H.zin))) ?_
             refine fn_ ?_
             intro a w X hR hA
             have h := hR.out [4, 91]
             have h : Fr 186 [(91, _), (4, _)] a := h
             have H := H.ext X
             refine z_store h H 0 rfl rfl rfl Tryz.sizeOf25 [_, _, _] rfl rfl rfl (by simp) [_, _, _] rfl (hl' := [_]) rfl fun w H => ?_
             refine c_nil hK ?_
             obtain rfl := so hS
             refine c_ret (hret3 _ _ (out1 h rfl ⟨_, rfl, run_loadVar_agg (vs := [_, _, _]) Tryz.isAgg25 Tryz.sizeOf25 (H.hp.get 0 rfl) rfl rfl⟩ ?_))
             exact ⟨rfl, H.out⟩
            ·
             have hS := ifF ec71 hS
             refine c_region fun K hK => ?_
             obtain ⟨z93_80, ez93_80, hS⟩ := bv hS
             refine st1 h rfl rfl rfl (vB ez93_80 (v_seq rfl rfl)) fun a h => ?_
             refine st1 h rfl rfl rfl (v_assign rfl) fun a h => ?_
             refine c_nil hK ?_
             refine c_cond h rfl (fun ec81 => ?_) (fun ec81 => ?_)
             ·
              have hS := ifT ec81 hS
              refine c_flowT 15 h (by kernel_rfl) (by kernel_rfl) fun K hK => ?_
              refine f1 [1] rfl rfl rfl rfl (fun w X => v_move rfl) ?_
              obtain ⟨c82, hS⟩ := ck hS
              obtain ⟨z95_83, ez95_83, hS⟩ := bv hS
              obtain ⟨css_84, cl_84, rc_84, hc_84, v95_84_1, hcs_84, r95_84_1⟩ := (rp1).get (p := 0) (x := z95_83) (by rw [ez95_83]; exact gel_some c82)
              refine f_op [94] rfl rfl rfl rfl false (.rel (fun w' v' => At w' v' (fun _ : Unit => [.bool z95_83.area, .int .i64 z95_83.cols, v95_84_1]) () 0)) at_stab (fun w X => ?_) ?_
              ·
               skip
               exact have H := H.ext X; d_idxC Tryz.underlying27 Tryz.sizeOf29 rfl rfl (rc_84.at H.zin) c82.1 hc_84 hcs_84
              refine f_op [95] rfl rfl rfl rfl false (.rel (fun w' v' => At w' v' (fun _ : Unit => [.bool z95_83.area, .int .i64 z95_83.cols, v95_84_1]) () 2)) at_stab (fun w X => ?_) ?_
              ·
               intro v95 h95
               exact d_field rfl h95 Tryz.underlying29 rfl Tryz.sizeOf22 rfl rfl
              refine f_op [96] rfl rfl rfl rfl false (.eq (v95_84_1)) trivial (fun w X => ?_) ?_
              ·
               intro v96 h96
               exact (v_loadAt1 rfl h96 Tryz.isAgg22 rfl).doesF
              refine f1 [97] rfl rfl rfl rfl (fun w X => have H := H.ext X; v_len Tryz.underlying22 rfl (r95_84_1.at H.zin)) ?_
              refine f1 [1] rfl rfl rfl rfl (fun w X => v_move rfl) ?_
              obtain ⟨c85, hS⟩ := ck hS
              obtain ⟨z100_86, ez100_86, hS⟩ := bv hS
              obtain ⟨css_87, cl_87, rc_87, hc_87, v100_87_1, hcs_87, r100_87_1⟩ := (rp1).get (p := 0) (x := z100_86) (by rw [ez100_86]; exact gel_some c85)
              refine f_op [99] rfl rfl rfl rfl false (.rel (fun w' v' => At w' v' (fun _ : Unit => [.bool z100_86.area, .int .i64 z100_86.cols, v100_87_1]) () 0)) at_stab (fun w X => ?_) ?_
              ·
               skip
               exact have H := H.ext X; d_idxC Tryz.underlying27 Tryz.sizeOf29 rfl rfl (rc_87.at H.zin) c85.1 hc_87 hcs_87
              refine f_op [100] rfl rfl rfl rfl false (.rel (fun w' v' => At w' v' (fun _ : Unit => [.bool z100_86.area, .int .i64 z100_86.cols, v100_87_1]) () 1)) at_stab (fun w X => ?_) ?_
              ·
               intro v100 h100
               exact d_field rfl h100 Tryz.underlying29 rfl Tryz.sizeOf3 rfl rfl
              refine f_op [101] rfl rfl rfl rfl false (.eq (.int .i64 z100_86.cols)) trivial (fun w X => ?_) ?_
              ·
               intro v101 h101
               exact (v_loadAt1 rfl h101 Tryz.isAgg3 rfl).doesF
              obtain ⟨z103_88, ez103_88, hS⟩ := bv hS
              refine f1 [102] rfl rfl rfl rfl (fun w X => vI ez103_88 (v_max Tryz.underlying3 rfl rfl)) ?_
              obtain ⟨c89, hS⟩ := ck hS
              obtain ⟨z104_90, ez104_90, hS⟩ := bv hS
              refine f1 [98, 103] rfl rfl rfl rfl (fun w X => vI ez104_90 (v_quow rfl rfl c89)) ?_
              obtain ⟨y105_91, hy105_91, hS⟩ := bo hS
              refine f2 (V := .tuple #[.int .i64 y105_91.1, .bool y105_91.2]) [104] rfl rfl rfl rfl (fun w X => d_call [_] rfl Tryz.call43 (num_Of_ok (x0 := z104_90) hy105_91)) ?_
              refine f1 [105] rfl rfl rfl rfl (fun w X => v_extract rfl rfl) ?_
              refine f1 [105] rfl rfl rfl rfl (fun w X => v_extract rfl rfl) ?_
              obtain ⟨y108_92, hy108_92, hS⟩ := bo hS
              refine f2 (V := .agg #[.int .i64 y108_92.k, .int .i64 y108_92.n, S y108_92.s]) [106, 107] rfl rfl rfl rfl (fun w X => d_call [_, _] rfl Tryz.call35 (value_Made_ok (x0 := y105_91.1) (x1 := y105_91.2) hy108_92)) ?_
              refine fn_ ?_
              intro a w X hR hA
              have h := hR.out [4, 108]
              have h : Fr 186 [(108, _), (4, _)] a := h
              have H := H.ext X
              refine z_store h H 0 rfl rfl rfl Tryz.sizeOf25 [_, _, _] rfl rfl rfl (by simp) [_, _, _] rfl (hl' := [_]) rfl fun w H => ?_
              refine c_nil hK ?_
              obtain rfl := so hS
              refine c_ret (hret3 _ _ (out1 h rfl ⟨_, rfl, run_loadVar_agg (vs := [_, _, _]) Tryz.isAgg25 Tryz.sizeOf25 (H.hp.get 0 rfl) rfl rfl⟩ ?_))
              exact ⟨rfl, H.out⟩
             ·
              have hS := ifF ec81 hS
              refine c_region fun K hK => ?_
              obtain ⟨z110_93, ez110_93, hS⟩ := bv hS
              refine st1 h rfl rfl rfl (vB ez110_93 (v_seq rfl rfl)) fun a h => ?_
              refine st1 h rfl rfl rfl (v_assign rfl) fun a h => ?_
              refine c_nil hK ?_
              have h := h.only [0, 1, 4, 9, 109] (l' := [_, _, _, _, _]) rfl
              refine c_cond h rfl (fun ec94 => ?_) (fun ec94 => ?_)
              ·
               have hS := ifT ec94 hS
               refine c_region fun K hK => ?_
               refine st1 h rfl rfl rfl (v_move rfl) fun a h => ?_
               obtain ⟨c95, hS⟩ := ck hS
               obtain ⟨z112_96, ez112_96, hS⟩ := bv hS
               obtain ⟨css_97, cl_97, rc_97, hc_97, v112_97_1, hcs_97, r112_97_1⟩ := (rp1).get (p := 0) (x := z112_96) (by rw [ez112_96]; exact gel_some c95)
               refine st_idxC h Tryz.underlying27 Tryz.sizeOf29 rfl rfl (rc_97.at H.zin) c95.1 hc_97 hcs_97 rfl fun a v112 A112 h => ?_
               refine st_fieldAt h rfl A112 Tryz.underlying29 rfl Tryz.sizeOf3 rfl rfl rfl fun a v113 A113 h => ?_
               refine st1 h rfl rfl rfl (v_loadAt1 rfl A113 Tryz.isAgg3 rfl) fun a h => ?_
               obtain ⟨y115_98, hy115_98, hS⟩ := bo hS
               refine st2v (T := Ext) (V := .tuple #[.int .i64 y115_98.1, .bool y115_98.2]) h rfl rfl rfl (d_call [_] rfl Tryz.call43 (num_Of_ok (x0 := z112_96.cols) hy115_98)) fun w X a h => ?_
               have H := H.ext X
               have A112 := At.ext A112 X
               have A113 := At.ext A113 X
               refine st1 h rfl rfl rfl (v_extract rfl rfl) fun a h => ?_
               refine st1 h rfl rfl rfl (v_extract rfl rfl) fun a h => ?_
               obtain ⟨y118_99, hy118_99, hS⟩ := bo hS
               refine st2v (T := Ext) (V := .agg #[.int .i64 y118_99.k, .int .i64 y118_99.n, S y118_99.s]) h rfl rfl rfl (d_call [_, _] rfl Tryz.call35 (value_Made_ok (x0 := y115_98.1) (x1 := y115_98.2) hy118_99)) fun w X a h => ?_
               have H := H.ext X
               have A112 := At.ext A112 X
               have A113 := At.ext A113 X
               refine z_store h H 0 rfl rfl rfl Tryz.sizeOf25 [_, _, _] rfl rfl rfl (by simp) [_, _, _] rfl (hl' := [_]) rfl fun w H => ?_
               refine c_nil hK ?_
               have h := h.only [4] (l' := [_]) rfl
               obtain rfl := so hS
               refine c_ret (hret3 _ _ (out1 h rfl ⟨_, rfl, run_loadVar_agg (vs := [_, _, _]) Tryz.isAgg25 Tryz.sizeOf25 (H.hp.get 0 rfl) rfl rfl⟩ ?_))
               exact ⟨rfl, H.out⟩
              ·
               have hS := ifF ec94 hS
               refine c_region fun K hK => ?_
               obtain ⟨z120_100, ez120_100, hS⟩ := bv hS
               refine st1 h rfl rfl rfl (vB ez120_100 (v_seq rfl rfl)) fun a h => ?_
               refine st1 h rfl rfl rfl (v_assign rfl) fun a h => ?_
               refine c_nil hK ?_
               refine c_cond h rfl (fun ec101 => ?_) (fun ec101 => ?_)
               ·
                have hS := ifT ec101 hS
                refine c_region fun K hK => ?_
                obtain ⟨y121_102, hy121_102, hS⟩ := bo hS
                refine st2v (T := Ext) (V := .agg #[.int .i64 y121_102.k, .int .i64 y121_102.n, S y121_102.s]) h rfl rfl rfl (d_call [_] rfl Tryz.call13 (value_Fail_ok (x0 := (6 : Int)) hy121_102)) fun w X a h => ?_
                have H := H.ext X
                refine z_store h H 0 rfl rfl rfl Tryz.sizeOf25 [_, _, _] rfl rfl rfl (by simp) [_, _, _] rfl (hl' := [_]) rfl fun w H => ?_
                refine c_nil hK ?_
                have h := h.only [4] (l' := [_]) rfl
                obtain rfl := so hS
                refine c_ret (hret3 _ _ (out1 h rfl ⟨_, rfl, run_loadVar_agg (vs := [_, _, _]) Tryz.isAgg25 Tryz.sizeOf25 (H.hp.get 0 rfl) rfl rfl⟩ ?_))
                exact ⟨rfl, H.out⟩
               ·
                have hS := ifF ec101 hS
                refine c_region fun K hK => ?_
                obtain ⟨z123_103, ez123_103, hS⟩ := bv hS
                refine st1 h rfl rfl rfl (vB ez123_103 (v_seq rfl rfl)) fun a h => ?_
                refine st1 h rfl rfl rfl (v_assign rfl) fun a h => ?_
                refine c_nil hK ?_
                have h := h.only [0, 1, 4, 9, 122] (l' := [_, _, _, _, _]) rfl
                refine c_cond h rfl (fun ec104 => ?_) (fun ec104 => ?_)
                ·
                 have hS := ifT ec104 hS
                 refine c_region fun K hK => ?_
                 refine st1 h rfl rfl rfl (v_move rfl) fun a h => ?_
                 obtain ⟨c105, hS⟩ := ck hS
                 obtain ⟨z126_106, ez126_106, hS⟩ := bv hS
                 refine z_partN_l (E := argEnc) h Tryz.underlying27 Tryz.sizeOf29 rfl rfl rp1 c105 rfl fun a v126_107 r126_107 h => ?_
                 rw [← ez126_106] at r126_107
                 obtain ⟨y127_108, hy127_108, hS⟩ := bo hS
                 refine st2 h rfl rfl rfl (d_call [_] rfl Tryz.call28 (funcs_nums_ok (x0 := z126_106) hy127_108 (r126_107.hz H.zin))) ?_
                 rintro v_ w ⟨v127_109_1, rfl, r127_109_1, X⟩ a h
                 obtain ⟨Z, hsub, hadd, H⟩ := H.adopt' X
                 have r126_107 := r126_107.sub hsub
                 have rp1 := rp1.sub hsub
                 have r127_109_1 := r127_109_1.sub (ZB.empty.trans hadd)
                 refine st1 h rfl rfl rfl (v_move rfl) fun a h => ?_
                 refine st1 h rfl rfl rfl (v_extract rfl rfl) fun a h => ?_
                 refine st1 h rfl rfl rfl (v_extract rfl rfl) fun a h => ?_
                 refine z_alloc h H Tryz.zeroValue25 [_, _, _] rfl rfl fun a p6_110 w X H h => ?_
                 have H : HZ w0 _ _ [_, _] _ := H
                 refine st1 h rfl rfl rfl (v_assign rfl) fun a h => ?_
                 refine z_store h H 1 rfl rfl rfl Tryz.sizeOf25 [_, _, _] rfl rfl rfl (by simp) [_, _, _] rfl (hl' := [_, _]) rfl fun w H => ?_
                 refine c_nil hK ?_
                 have h := h.only [1, 4, 5, 6] (l' := [_, _, _, _]) rfl
                 refine c_seq _ (fun a w c => c) fun Q111 hN111 hO111 => ?_
                 have hret111 := hO111.ret hret3
                 have hx0_111 := hO111.exit (i := 0) rfl hx0_3
                 refine c_region fun K hK => ?_
                 refine st1 h rfl rfl rfl (v_fieldAddr rfl Tryz.underlying25 rfl Tryz.sizeOf3 rfl rfl) fun a h => ?_
                 refine st1 h rfl rfl rfl (v_load1 rfl Tryz.isAgg3 (H.hp.get 1 rfl) rfl) fun a h => ?_
                 obtain ⟨z132_112, ez132_112, hS⟩ := bv hS
                 refine st1 h rfl rfl rfl (vB ez132_112 (v_eq rfl rfl)) fun a h => ?_
                 refine c_nil hK ?_
                 refine c_cond h rfl (fun ec113 => ?_) (fun ec113 => ?_)
                 ·
                  have hS := ifT ec113 hS
                  refine c_region fun K hK => ?_
                  refine st1 h rfl rfl rfl (v_loadA [_, _, _] rfl Tryz.isAgg25 Tryz.sizeOf25 (H.hp.get 1 rfl) rfl rfl) fun a h => ?_
                  refine z_store h H 0 rfl rfl rfl Tryz.sizeOf25 [_, _, _] rfl rfl rfl (by simp) [_, _, _] rfl (hl' := [_, _]) rfl fun w H => ?_
                  refine c_nil hK ?_
                  have h := h.only [4] (l' := [_]) rfl
                  obtain rfl := so hS
                  refine c_ret (hret111 _ _ (out1 h rfl ⟨_, rfl, run_loadVar_agg (vs := [_, _, _]) Tryz.isAgg25 Tryz.sizeOf25 (H.hp.get 0 rfl) rfl rfl⟩ ?_))
                  exact ⟨rfl, H.out⟩
                 ·
                  have hS := ifF ec113 hS
                  refine c_skip ?_
                  refine hN111 _ _ ?_
                  have h := h.only [1, 4, 5] (l' := [_, _, _]) rfl
                  refine c_flowT 17 h (by kernel_rfl) (by kernel_rfl) fun K hK => ?_
                  refine f1 [1] rfl rfl rfl rfl (fun w X => v_move rfl) ?_
                  obtain ⟨c114, hS⟩ := ck hS
                  obtain ⟨z135_115, ez135_115, hS⟩ := bv hS
                  obtain ⟨css_116, cl_116, rc_116, hc_116, v135_116_1, hcs_116, r135_116_1⟩ := (rp1).get (p := 0) (x := z135_115) (by rw [ez135_115]; exact gel_some c114)
                  refine f_op [134] rfl rfl rfl rfl false (.rel (fun w' v' => At w' v' (fun _ : Unit => [.bool z135_115.area, .int .i64 z135_115.cols, v135_116_1]) () 0)) at_stab (fun w X => ?_) ?_
                  ·
                   skip
                   exact have H := H.ext X; d_idxC Tryz.underlying27 Tryz.sizeOf29 rfl rfl (rc_116.at H.zin) c114.1 hc_116 hcs_116
                  refine f_op [135] rfl rfl rfl rfl false (.rel (fun w' v' => At w' v' (fun _ : Unit => [.bool z135_115.area, .int .i64 z135_115.cols, v135_116_1]) () 1)) at_stab (fun w X => ?_) ?_
                  ·
                   intro v135 h135
                   exact d_field rfl h135 Tryz.underlying29 rfl Tryz.sizeOf3 rfl rfl
                  refine f_op [136] rfl rfl rfl rfl false (.eq (.int .i64 z135_115.cols)) trivial (fun w X => ?_) ?_
                  ·
                   intro v136 h136
                   exact (v_loadAt1 rfl h136 Tryz.isAgg3 rfl).doesF
                  refine f1 [5] rfl rfl rfl rfl (fun w X => v_move rfl) ?_
                  obtain ⟨c117, hS⟩ := ck hS
                  obtain ⟨z139_118, ez139_118, hS⟩ := bv hS
                  refine f_op [138] rfl rfl rfl rfl false (.rel (fun w' v' => At w' v' (eI .i64) z139_118 0)) at_stab (fun w X => ?_) ?_
                  ·
                   skip
                   exact have H := H.ext X; d_idx Tryz.underlying52 Tryz.sizeOf2 rfl rfl (r127_109_1.at H.zin) (fun _ => rfl) z139_118 c117.1 (by rw [ez139_118]; exact gel_some c117)
                  refine f_op [139] rfl rfl rfl rfl false (.eq (.int .i64 z139_118)) trivial (fun w X => ?_) ?_
                  ·
                   intro v139 h139
                   exact (v_loadAt1 rfl h139 Tryz.isAgg2 rfl).doesF
                  obtain ⟨z141_119, ez141_119, hS⟩ := bv hS
                  refine f1 [140] rfl rfl rfl rfl (fun w X => vI ez141_119 (v_quow rfl rfl (by decide))) ?_
                  refine f1 [5] rfl rfl rfl rfl (fun w X => v_move rfl) ?_
                  obtain ⟨c120, hS⟩ := ck hS
                  obtain ⟨z143_121, ez143_121, hS⟩ := bv hS
                  refine f_op [142] rfl rfl rfl rfl false (.rel (fun w' v' => At w' v' (eI .i64) z143_121 0)) at_stab (fun w X => ?_) ?_
                  ·
                   skip
                   exact have H := H.ext X; d_idx Tryz.underlying52 Tryz.sizeOf2 rfl rfl (r127_109_1.at H.zin) (fun _ => rfl) z143_121 c120.1 (by rw [ez143_121]; exact gel_some c120)
                  refine f_op [143] rfl rfl rfl rfl false (.eq (.int .i64 z143_121)) trivial (fun w X => ?_) ?_
                  ·
                   intro v143 h143
                   exact (v_loadAt1 rfl h143 Tryz.isAgg2 rfl).doesF
                  obtain ⟨z145_122, ez145_122, hS⟩ := bv hS
                  refine f1 [144] rfl rfl rfl rfl (fun w X => vI ez145_122 (v_quow rfl rfl (by decide))) ?_
                  refine f1 [1] rfl rfl rfl rfl (fun w X => v_move rfl) ?_
                  obtain ⟨c123, hS⟩ := ck hS
                  obtain ⟨z147_124, ez147_124, hS⟩ := bv hS
                  obtain ⟨css_125, cl_125, rc_125, hc_125, v147_125_1, hcs_125, r147_125_1⟩ := (rp1).get (p := 0) (x := z147_124) (by rw [ez147_124]; exact gel_some c123)
                  refine f_op [146] rfl rfl rfl rfl false (.rel (fun w' v' => At w' v' (fun _ : Unit => [.bool z147_124.area, .int .i64 z147_124.cols, v147_125_1]) () 0)) at_stab (fun w X => ?_) ?_
                  ·
                   skip
                   exact have H := H.ext X; d_idxC Tryz.underlying27 Tryz.sizeOf29 rfl rfl (rc_125.at H.zin) c123.1 hc_125 hcs_125
                  refine f_op [147] rfl rfl rfl rfl false (.rel (fun w' v' => At w' v' (fun _ : Unit => [.bool z147_124.area, .int .i64 z147_124.cols, v147_125_1]) () 2)) at_stab (fun w X => ?_) ?_
                  ·
                   intro v147 h147
                   exact d_field rfl h147 Tryz.underlying29 rfl Tryz.sizeOf22 rfl rfl
                  refine f_op [148] rfl rfl rfl rfl false (.eq (v147_125_1)) trivial (fun w X => ?_) ?_
                  ·
                   intro v148 h148
                   exact (v_loadAt1 rfl h148 Tryz.isAgg22 rfl).doesF
                  obtain ⟨y150_126, hy150_126, hS⟩ := bo hS
                  refine f2 (V := .agg #[.int .i64 y150_126.k, .int .i64 y150_126.n, S y150_126.s]) [137, 141, 145, 149] rfl rfl rfl rfl (fun w X => have H := H.ext X; d_call [_, _, _, _] rfl Tryz.call70 (lists_Index_ok (x0 := z135_115.cols) (x1 := z141_119) (x2 := z145_122) (x3 := z147_124.l) hy150_126 (r147_125_1.hz H.zin))) ?_
                  refine fn_ ?_
                  intro a w X hR hA
                  have h := hR.out [4, 150]
                  have h : Fr 186 [(150, _), (4, _)] a := h
                  have H := H.ext X
                  refine z_store h H 0 rfl rfl rfl Tryz.sizeOf25 [_, _, _] rfl rfl rfl (by simp) [_, _, _] rfl (hl' := [_, _]) rfl fun w H => ?_
                  refine c_nil hK ?_
                  obtain rfl := so hS
                  refine c_ret (hret3 _ _ (out1 h rfl ⟨_, rfl, run_loadVar_agg (vs := [_, _, _]) Tryz.isAgg25 Tryz.sizeOf25 (H.hp.get 0 rfl) rfl rfl⟩ ?_))
                  exact ⟨rfl, H.out⟩
                ·
                 have hS := ifF ec104 hS
                 refine c_region fun K hK => ?_
                 obtain ⟨z152_127, ez152_127, hS⟩ := bv hS
                 refine st1 h rfl rfl rfl (vB ez152_127 (v_seq rfl rfl)) fun a h => ?_
                 refine st1 h rfl rfl rfl (v_assign rfl) fun a h => ?_
                 refine c_nil hK ?_
                 refine c_cond h rfl (fun ec128 => ?_) (fun ec128 => ?_)
                 ·
                  have hS := ifT ec128 hS
                  refine c_region fun K hK => ?_
                  refine st1 h rfl rfl rfl (v_move rfl) fun a h => ?_
                  obtain ⟨c129, hS⟩ := ck hS
                  obtain ⟨z155_130, ez155_130, hS⟩ := bv hS
                  refine z_partN_l (E := argEnc) h Tryz.underlying27 Tryz.sizeOf29 rfl rfl rp1 c129 rfl fun a v155_131 r155_131 h => ?_
                  rw [← ez155_130] at r155_131
                  obtain ⟨y156_132, hy156_132, hS⟩ := bo hS
                  refine st2 h rfl rfl rfl (d_call [_] rfl Tryz.call28 (funcs_nums_ok (x0 := z155_130) hy156_132 (r155_131.hz H.zin))) ?_
                  rintro v_ w ⟨v156_133_1, rfl, r156_133_1, X⟩ a h
                  obtain ⟨Z, hsub, hadd, H⟩ := H.adopt' X
                  have r155_131 := r155_131.sub hsub
                  have rp1 := rp1.sub hsub
                  have r156_133_1 := r156_133_1.sub (ZB.empty.trans hadd)
                  refine st1 h rfl rfl rfl (v_move rfl) fun a h => ?_
                  refine st1 h rfl rfl rfl (v_extract rfl rfl) fun a h => ?_
                  refine st1 h rfl rfl rfl (v_extract rfl rfl) fun a h => ?_
                  refine z_alloc h H Tryz.zeroValue25 [_, _, _] rfl rfl fun a p8_134 w X H h => ?_
                  have H : HZ w0 _ _ [_, _] _ := H
                  refine st1 h rfl rfl rfl (v_assign rfl) fun a h => ?_
                  refine z_store h H 1 rfl rfl rfl Tryz.sizeOf25 [_, _, _] rfl rfl rfl (by simp) [_, _, _] rfl (hl' := [_, _]) rfl fun w H => ?_
                  refine c_nil hK ?_
                  have h := h.only [1, 4, 7, 8] (l' := [_, _, _, _]) rfl
                  refine c_seq _ (fun a w c => c) fun Q135 hN135 hO135 => ?_
                  have hret135 := hO135.ret hret3
                  have hx0_135 := hO135.exit (i := 0) rfl hx0_3
                  refine c_region fun K hK => ?_
                  refine st1 h rfl rfl rfl (v_fieldAddr rfl Tryz.underlying25 rfl Tryz.sizeOf3 rfl rfl) fun a h => ?_
                  refine st1 h rfl rfl rfl (v_load1 rfl Tryz.isAgg3 (H.hp.get 1 rfl) rfl) fun a h => ?_
                  obtain ⟨z161_136, ez161_136, hS⟩ := bv hS
                  refine st1 h rfl rfl rfl (vB ez161_136 (v_eq rfl rfl)) fun a h => ?_
                  refine c_nil hK ?_
                  refine c_cond h rfl (fun ec137 => ?_) (fun ec137 => ?_)
                  ·
                   have hS := ifT ec137 hS
                   refine c_region fun K hK => ?_
                   refine st1 h rfl rfl rfl (v_loadA [_, _, _] rfl Tryz.isAgg25 Tryz.sizeOf25 (H.hp.get 1 rfl) rfl rfl) fun a h => ?_
                   refine z_store h H 0 rfl rfl rfl Tryz.sizeOf25 [_, _, _] rfl rfl rfl (by simp) [_, _, _] rfl (hl' := [_, _]) rfl fun w H => ?_
                   refine c_nil hK ?_
                   have h := h.only [4] (l' := [_]) rfl
                   obtain rfl := so hS
                   refine c_ret (hret135 _ _ (out1 h rfl ⟨_, rfl, run_loadVar_agg (vs := [_, _, _]) Tryz.isAgg25 Tryz.sizeOf25 (H.hp.get 0 rfl) rfl rfl⟩ ?_))
                   exact ⟨rfl, H.out⟩
                  ·
                   have hS := ifF ec137 hS
                   refine c_skip ?_
                   refine hN135 _ _ ?_
                   have h := h.only [1, 4, 7] (l' := [_, _, _]) rfl
                   refine c_flowT 17 h (by kernel_rfl) (by kernel_rfl) fun K hK => ?_
                   refine f1 [1] rfl rfl rfl rfl (fun w X => v_move rfl) ?_
                   obtain ⟨c138, hS⟩ := ck hS
                   obtain ⟨z164_139, ez164_139, hS⟩ := bv hS
                   obtain ⟨css_140, cl_140, rc_140, hc_140, v164_140_1, hcs_140, r164_140_1⟩ := (rp1).get (p := 0) (x := z164_139) (by rw [ez164_139]; exact gel_some c138)
                   refine f_op [163] rfl rfl rfl rfl false (.rel (fun w' v' => At w' v' (fun _ : Unit => [.bool z164_139.area, .int .i64 z164_139.cols, v164_140_1]) () 0)) at_stab (fun w X => ?_) ?_
                   ·
                    skip
                    exact have H := H.ext X; d_idxC Tryz.underlying27 Tryz.sizeOf29 rfl rfl (rc_140.at H.zin) c138.1 hc_140 hcs_140
                   refine f_op [164] rfl rfl rfl rfl false (.eq (.agg #[.bool z164_139.area, .int .i64 z164_139.cols, v164_140_1])) trivial (fun w X => ?_) ?_
                   ·
                    intro v164 h164
                    exact (v_loadAtA [_, _, _] rfl h164 Tryz.isAgg29 Tryz.sizeOf29 rfl rfl).doesF
                   obtain ⟨y166_141, hy166_141, hS⟩ := bo hS
                   refine f2 (V := .agg #[.int .i64 y166_141.k, .int .i64 y166_141.n, S y166_141.s]) [165] rfl rfl rfl rfl (fun w X => have H := H.ext X; d_call [_] rfl Tryz.call58 (funcs_single_ok (x0 := z164_139) hy166_141 (r164_140_1.hz H.zin))) ?_
                   refine f1 [1] rfl rfl rfl rfl (fun w X => v_move rfl) ?_
                   obtain ⟨c142, hS⟩ := ck hS
                   obtain ⟨z168_143, ez168_143, hS⟩ := bv hS
                   obtain ⟨css_144, cl_144, rc_144, hc_144, v168_144_1, hcs_144, r168_144_1⟩ := (rp1).get (p := 1) (x := z168_143) (by rw [ez168_143]; exact gel_some c142)
                   refine f_op [167] rfl rfl rfl rfl false (.rel (fun w' v' => At w' v' (fun _ : Unit => [.bool z168_143.area, .int .i64 z168_143.cols, v168_144_1]) () 0)) at_stab (fun w X => ?_) ?_
                   ·
                    skip
                    exact have H := H.ext X; d_idxC Tryz.underlying27 Tryz.sizeOf29 rfl rfl (rc_144.at H.zin) c142.1 hc_144 hcs_144
                   refine f_op [168] rfl rfl rfl rfl false (.rel (fun w' v' => At w' v' (fun _ : Unit => [.bool z168_143.area, .int .i64 z168_143.cols, v168_144_1]) () 1)) at_stab (fun w X => ?_) ?_
                   ·
                    intro v168 h168
                    exact d_field rfl h168 Tryz.underlying29 rfl Tryz.sizeOf3 rfl rfl
                   refine f_op [169] rfl rfl rfl rfl false (.eq (.int .i64 z168_143.cols)) trivial (fun w X => ?_) ?_
                   ·
                    intro v169 h169
                    exact (v_loadAt1 rfl h169 Tryz.isAgg3 rfl).doesF
                   refine f1 [7] rfl rfl rfl rfl (fun w X => v_move rfl) ?_
                   obtain ⟨c145, hS⟩ := ck hS
                   obtain ⟨z172_146, ez172_146, hS⟩ := bv hS
                   refine f_op [171] rfl rfl rfl rfl false (.rel (fun w' v' => At w' v' (eI .i64) z172_146 0)) at_stab (fun w X => ?_) ?_
                   ·
                    skip
                    exact have H := H.ext X; d_idx Tryz.underlying52 Tryz.sizeOf2 rfl rfl (r156_133_1.at H.zin) (fun _ => rfl) z172_146 c145.1 (by rw [ez172_146]; exact gel_some c145)
                   refine f_op [172] rfl rfl rfl rfl false (.eq (.int .i64 z172_146)) trivial (fun w X => ?_) ?_
                   ·
                    intro v172 h172
                    exact (v_loadAt1 rfl h172 Tryz.isAgg2 rfl).doesF
                   obtain ⟨z174_147, ez174_147, hS⟩ := bv hS
                   refine f1 [173] rfl rfl rfl rfl (fun w X => vI ez174_147 (v_quow rfl rfl (by decide))) ?_
                   refine f1 [1] rfl rfl rfl rfl (fun w X => v_move rfl) ?_
                   obtain ⟨c148, hS⟩ := ck hS
                   obtain ⟨z176_149, ez176_149, hS⟩ := bv hS
                   obtain ⟨css_150, cl_150, rc_150, hc_150, v176_150_1, hcs_150, r176_150_1⟩ := (rp1).get (p := 1) (x := z176_149) (by rw [ez176_149]; exact gel_some c148)
                   refine f_op [175] rfl rfl rfl rfl false (.rel (fun w' v' => At w' v' (fun _ : Unit => [.bool z176_149.area, .int .i64 z176_149.cols, v176_150_1]) () 0)) at_stab (fun w X => ?_) ?_
                   ·
                    skip
                    exact have H := H.ext X; d_idxC Tryz.underlying27 Tryz.sizeOf29 rfl rfl (rc_150.at H.zin) c148.1 hc_150 hcs_150
                   refine f_op [176] rfl rfl rfl rfl false (.rel (fun w' v' => At w' v' (fun _ : Unit => [.bool z176_149.area, .int .i64 z176_149.cols, v176_150_1]) () 2)) at_stab (fun w X => ?_) ?_
                   ·
                    intro v176 h176
                    exact d_field rfl h176 Tryz.underlying29 rfl Tryz.sizeOf22 rfl rfl
                   refine f_op [177] rfl rfl rfl rfl false (.eq (v176_150_1)) trivial (fun w X => ?_) ?_
                   ·
                    intro v177 h177
                    exact (v_loadAt1 rfl h177 Tryz.isAgg22 rfl).doesF
                   obtain ⟨y179_151, hy179_151, hS⟩ := bo hS
                   refine f2 (V := .agg #[.int .i64 y179_151.k, .int .i64 y179_151.n, S y179_151.s]) [166, 170, 174, 178] rfl rfl rfl rfl (fun w X => have H := H.ext X; d_call [_, _, _, _] rfl Tryz.call71 (lists_VLookup_ok (x0 := y166_141) (x1 := z168_143.cols) (x2 := z174_147) (x3 := z176_149.l) hy179_151 (r176_150_1.hz H.zin))) ?_
                   refine fn_ ?_
                   intro a w X hR hA
                   have h := hR.out [4, 179]
                   have h : Fr 186 [(179, _), (4, _)] a := h
                   have H := H.ext X
                   refine z_store h H 0 rfl rfl rfl Tryz.sizeOf25 [_, _, _] rfl rfl rfl (by simp) [_, _, _] rfl (hl' := [_, _]) rfl fun w H => ?_
                   refine c_nil hK ?_
                   obtain rfl := so hS
                   refine c_ret (hret3 _ _ (out1 h rfl ⟨_, rfl, run_loadVar_agg (vs := [_, _, _]) Tryz.isAgg25 Tryz.sizeOf25 (H.hp.get 0 rfl) rfl rfl⟩ ?_))
                   exact ⟨rfl, H.out⟩
                 ·
                  have hS := ifF ec128 hS
                  refine c_skip ?_
                  refine hN3 _ _ ?_
                  refine hN2 _ _ ?_
                  have h := h.only [0, 1, 4] (l' := [_, _, _]) rfl
                  refine c_region fun K hK => ?_
                  refine st1 h rfl rfl rfl (v_move rfl) fun a h => ?_
                  refine st1 h rfl rfl rfl (v_move rfl) fun a h => ?_
                  obtain ⟨c152, hS⟩ := ck hS
                  obtain ⟨z182_153, ez182_153, hS⟩ := bv hS
                  obtain ⟨css_154, cl_154, rc_154, hc_154, v182_154_1, hcs_154, r182_154_1⟩ := (rp1).get (p := 0) (x := z182_153) (by rw [ez182_153]; exact gel_some c152)
                  refine st_idxC h Tryz.underlying27 Tryz.sizeOf29 rfl rfl (rc_154.at H.zin) c152.1 hc_154 hcs_154 rfl fun a v182 A182 h => ?_
                  refine st1 h rfl rfl rfl (v_loadAtA [_, _, _] rfl A182 Tryz.isAgg29 Tryz.sizeOf29 rfl rfl) fun a h => ?_
                  obtain ⟨y184_155, hy184_155, hS⟩ := bo hS
                  refine st2v (T := Ext) (V := .agg #[.int .i64 y184_155.k, .int .i64 y184_155.n, S y184_155.s]) h rfl rfl rfl (d_call [_] rfl Tryz.call58 (funcs_single_ok (x0 := z182_153) hy184_155 (r182_154_1.hz H.zin))) fun w X a h => ?_
                  have H := H.ext X
                  have A182 := At.ext A182 X
                  obtain ⟨y185_156, hy185_156, hS⟩ := bo hS
                  refine st2v (T := Ext) (V := .agg #[.int .i64 y185_156.k, .int .i64 y185_156.n, S y185_156.s]) h rfl rfl rfl (d_call [_, _] rfl Tryz.call72 (funcs_kind_ok (x0 := x0) (x1 := y184_155) hy185_156)) fun w X a h => ?_
                  have H := H.ext X
                  have A182 := At.ext A182 X
                  refine z_store h H 0 rfl rfl rfl Tryz.sizeOf25 [_, _, _] rfl rfl rfl (by simp) [_, _, _] rfl (hl' := [_]) rfl fun w H => ?_
                  refine c_nil hK ?_
                  have h := h.only [4] (l' := [_]) rfl
                  obtain rfl := so hS
                  refine c_ret (hret0 _ _ (out1 h rfl ⟨_, rfl, run_loadVar_agg (vs := [_, _, _]) Tryz.isAgg25 Tryz.sizeOf25 (H.hp.get 0 rfl) rfl rfl⟩ ?_))
                  exact ⟨rfl, H.out⟩
 ·
  have hret4 := hO4.ret hret3
  have hx0_4 := hO4.exit (i := 0) rfl hx0_3
  refine c_region fun K hK => ?_
  obtain ⟨z11_157, ez11_157, hS⟩ := bv hS
  refine st1 h rfl rfl rfl (vB ez11_157 (v_seq rfl rfl)) fun a h => ?_
  refine st1 h rfl rfl rfl (v_assign rfl) fun a h => ?_
  refine c_nil hK ?_
  refine c_cond h rfl (fun ec158 => ?_) (fun ec158 => ?_)
  ·
   have hS := ifT ec158 hS
   refine c_skip ?_
   exact hN4 _ _ ⟨_, z11_157, hS, (h.only [0, 1, 4, 9, 10] (l' := [_, _, _, _, _]) rfl), H, rp1⟩
  ·
   have hS := ifF ec158 hS
   refine c_lregion ?_
   obtain ⟨z12_159, ez12_159, hS⟩ := bv hS
   refine st1 h rfl rfl rfl (vB ez12_159 (v_seq rfl rfl)) fun a h => ?_
   refine st1 h rfl rfl rfl (v_assign rfl) fun a h => ?_
   refine c_lnil ?_
   exact hN4 _ _ ⟨_, z12_159, hS, (h.only [0, 1, 4, 9, 10] (l' := [_, _, _, _, _]) rfl), H, rp1⟩

theorem funcs_Apply_ok {x0 : Int} {x1 : List (Arg)} {res : V} {w0 : World} (hS : funcs_Apply x0 x1 = some res) {xv1 : Value} (rp1 : RdN (hz w0) xv1 argEnc x1) (hG : GW w0) : Calls Tryz.prog 10 [.int .i64 x0, xv1].toArray w0 (Ret fun v w => v = .agg #[.int .i64 res.k, .int .i64 res.n, S res.s] ∧ Ext w0 w) := by
 refine enter Tryz.func10 rfl rfl rfl fun Q a h hret0 hnor => ?_
 obtain ⟨Zi, Z, H, rp1⟩ : ∃ Zi Z, HZ w0 Zi Z [] w0 ∧ RdN Z xv1 argEnc x1 := ⟨_, _, HZ.start w0, rp1⟩
 have h := h.only [0, 1] (l' := [_, _]) rfl
 unfold funcs_Apply at hS
 refine c_region fun K hK => ?_
 refine z_alloc h H Tryz.zeroValue25 [_, _, _] rfl rfl fun a p4_1 w X H h => ?_
 have H : HZ w0 _ _ [_] _ := H
 refine c_nil hK ?_
 refine c_region fun K hK => ?_
 refine st1 h rfl rfl rfl (v_move rfl) fun a h => ?_
 obtain ⟨y14_2, hy14_2, hS⟩ := bo hS
 refine st2v (T := Ext) (V := S y14_2) h rfl rfl rfl (d_call [_] rfl Tryz.call27 (tree_Name_ok (x0 := x0) hy14_2 (hG.ext H.out))) fun w X a h => ?_
 have H := H.ext X
 refine st1 h rfl rfl rfl (v_assign rfl) fun a h => ?_
 refine c_nil hK ?_
 refine c_seq _ (fun a w c => c) fun Q3 hN3 hO3 => ?_
 have hret3 := hO3.ret hret0
 refine c_region fun K hK => ?_
 refine st1 h rfl rfl rfl (v_move rfl) fun a h => ?_
 refine st1 h rfl rfl rfl (v_move rfl) fun a h => ?_
 refine st1 h rfl rfl rfl (v_lenN Tryz.underlying27 rfl rp1 H.zin) fun a h => ?_
 obtain ⟨y18_4, hy18_4, hS⟩ := bo hS
 refine st2v (T := Ext) (V := .bool y18_4) h rfl rfl rfl (d_call [_, _] rfl Tryz.call12 (tree_Fits_ok (x0 := x0) (x1 := (x1.length : Int)) hy18_4 (hG.ext H.out))) fun w X a h => ?_
 have H := H.ext X
 obtain ⟨z19_5, ez19_5, hS⟩ := bv hS
 refine st1 h rfl rfl rfl (vB ez19_5 (v_not rfl)) fun a h => ?_
 refine c_nil hK ?_
 have h := h.only [1, 4, 5, 19] (l' := [_, _, _, _]) rfl
 refine c_cond h rfl (fun ec6 => ?_) (fun ec6 => ?_)
 ·
  have hS := ifT ec6 hS
  refine c_region fun K hK => ?_
  obtain ⟨y20_7, hy20_7, hS⟩ := bo hS
  refine st2v (T := Ext) (V := .agg #[.int .i64 y20_7.k, .int .i64 y20_7.n, S y20_7.s]) h rfl rfl rfl (d_call [_] rfl Tryz.call13 (value_Fail_ok (x0 := (2 : Int)) hy20_7)) fun w X a h => ?_
  have H := H.ext X
  refine z_store h H 0 rfl rfl rfl Tryz.sizeOf25 [_, _, _] rfl rfl rfl (by simp) [_, _, _] rfl (hl' := [_]) rfl fun w H => ?_
  refine c_nil hK ?_
  have h := h.only [4] (l' := [_]) rfl
  obtain rfl := so hS
  refine c_ret (hret3 _ _ (out1 h rfl ⟨_, rfl, run_loadVar_agg (vs := [_, _, _]) Tryz.isAgg25 Tryz.sizeOf25 (H.hp.get 0 rfl) rfl rfl⟩ ?_))
  exact ⟨rfl, H.out⟩
 ·
  have hS := ifF ec6 hS
  refine c_skip ?_
  refine hN3 _ _ ?_
  refine c_seq _ (fun a w c => c) fun Q8 hN8 hO8 => ?_
  have hret8 := hO8.ret hret0
  refine c_region fun K hK => ?_
  refine st1 h rfl rfl rfl (v_move rfl) fun a h => ?_
  refine c_nil hK ?_
  refine c_lblock fun Q9 hN9 hx0_9 hO9 => ?_
  have hret9 := hO9.ret hret8
  obtain ⟨J11, eJ11, hS⟩ := bv hS
  refine c_seq (fun a w => ∃ (Z : FZ) (s11 : Bool), J11 s11 = some res ∧ Fr 129 [(1, xv1), (4, .pointer (some ⟨p4_1, 0, none⟩)), (5, S y14_2), (21, S y14_2), (22, .bool s11)] a ∧ HZ w0 Zi Z [.blk p4_1 (Cel [.int .i64 0, .int .i64 0, S []] 25)] w ∧ RdN Z xv1 argEnc x1) ?_ fun Q10 hN10 hO10 => ?_
  ·
   rintro a w ⟨Z, s11, hS, h, H, rp1⟩
   subst eJ11
   refine c_cond h rfl (fun ec12 => ?_) (fun ec12 => ?_)
   ·
    have hS := ifT ec12 hS
    refine c_region fun K hK => ?_
    refine st1 h rfl rfl rfl (v_move rfl) fun a h => ?_
    obtain ⟨y38_13, hy38_13, hS⟩ := bo hS
    refine st2 h rfl rfl rfl (d_call [_] rfl Tryz.call28 (funcs_nums_ok (x0 := x1) hy38_13 (rp1.hz H.zin))) ?_
    rintro v_ w ⟨v38_14_1, rfl, r38_14_1, X⟩ a h
    obtain ⟨Z, hsub, hadd, H⟩ := H.adopt' X
    have rp1 := rp1.sub hsub
    have r38_14_1 := r38_14_1.sub (ZB.empty.trans hadd)
    refine st1 h rfl rfl rfl (v_move rfl) fun a h => ?_
    refine st1 h rfl rfl rfl (v_extract rfl rfl) fun a h => ?_
    refine st1 h rfl rfl rfl (v_extract rfl rfl) fun a h => ?_
    refine z_alloc h H Tryz.zeroValue25 [_, _, _] rfl rfl fun a p7_15 w X H h => ?_
    have H : HZ w0 _ _ [_, _] _ := H
    refine st1 h rfl rfl rfl (v_assign rfl) fun a h => ?_
    refine z_store h H 1 rfl rfl rfl Tryz.sizeOf25 [_, _, _] rfl rfl rfl (by simp) [_, _, _] rfl (hl' := [_, _]) rfl fun w H => ?_
    refine c_nil hK ?_
    have h := h.only [4, 5, 6, 7] (l' := [_, _, _, _]) rfl
    refine c_seq _ (fun a w c => c) fun Q16 hN16 hO16 => ?_
    have hret16 := hO16.ret hret9
    have hx0_16 := hO16.exit (i := 0) rfl hx0_9
    refine c_region fun K hK => ?_
    refine st1 h rfl rfl rfl (v_fieldAddr rfl Tryz.underlying25 rfl Tryz.sizeOf3 rfl rfl) fun a h => ?_
    refine st1 h rfl rfl rfl (v_load1 rfl Tryz.isAgg3 (H.hp.get 1 rfl) rfl) fun a h => ?_
    obtain ⟨z43_17, ez43_17, hS⟩ := bv hS
    refine st1 h rfl rfl rfl (vB ez43_17 (v_eq rfl rfl)) fun a h => ?_
    refine c_nil hK ?_
    refine c_cond h rfl (fun ec18 => ?_) (fun ec18 => ?_)
    ·
     have hS := ifT ec18 hS
     refine c_region fun K hK => ?_
     refine st1 h rfl rfl rfl (v_loadA [_, _, _] rfl Tryz.isAgg25 Tryz.sizeOf25 (H.hp.get 1 rfl) rfl rfl) fun a h => ?_
     refine z_store h H 0 rfl rfl rfl Tryz.sizeOf25 [_, _, _] rfl rfl rfl (by simp) [_, _, _] rfl (hl' := [_, _]) rfl fun w H => ?_
     refine c_nil hK ?_
     have h := h.only [4] (l' := [_]) rfl
     obtain rfl := so hS
     refine c_ret (hret16 _ _ (out1 h rfl ⟨_, rfl, run_loadVar_agg (vs := [_, _, _]) Tryz.isAgg25 Tryz.sizeOf25 (H.hp.get 0 rfl) rfl rfl⟩ ?_))
     exact ⟨rfl, H.out⟩
    ·
     have hS := ifF ec18 hS
     refine c_skip ?_
     refine hN16 _ _ ?_
     have h := h.only [4, 5, 6] (l' := [_, _, _]) rfl
     refine c_seq _ (fun a w c => c) fun Q19 hN19 hO19 => ?_
     have hret19 := hO19.ret hret9
     have hx0_19 := hO19.exit (i := 0) rfl hx0_9
     refine c_region fun K hK => ?_
     refine st1 h rfl rfl rfl (v_move rfl) fun a h => ?_
     refine st1 h rfl rfl rfl (v_len Tryz.underlying52 rfl (r38_14_1.at H.zin)) fun a h => ?_
     obtain ⟨z47_20, ez47_20, hS⟩ := bv hS
     refine st1 h rfl rfl rfl (vB ez47_20 (v_eq rfl rfl)) fun a h => ?_
     refine c_nil hK ?_
     refine c_cond h rfl (fun ec21 => ?_) (fun ec21 => ?_)
     ·
      have hS := ifT ec21 hS
      refine c_region fun K hK => ?_
      refine st1 h rfl rfl rfl (v_move rfl) fun a h => ?_
      refine st1 h rfl rfl rfl (v_move rfl) fun a h => ?_
      obtain ⟨c22, hS⟩ := ck hS
      obtain ⟨z50_23, ez50_23, hS⟩ := bv hS
      refine st_idx h Tryz.underlying52 Tryz.sizeOf2 rfl rfl (r38_14_1.at H.zin) (fun _ => rfl) z50_23 c22.1 (by rw [ez50_23]; exact gel_some c22) rfl fun a v50 A50 h => ?_
      refine st1 h rfl rfl rfl (v_loadAt1 rfl A50 Tryz.isAgg2 rfl) fun a h => ?_
      obtain ⟨y52_24, hy52_24, hS⟩ := bo hS
      refine st2v (T := Ext) (V := .agg #[.int .i64 y52_24.k, .int .i64 y52_24.n, S y52_24.s]) h rfl rfl rfl (d_call [_, _] rfl Tryz.call15 (maths_One_ok (x0 := y14_2) (x1 := z50_23) hy52_24)) fun w X a h => ?_
      have H := H.ext X
      have A50 := At.ext A50 X
      refine z_store h H 0 rfl rfl rfl Tryz.sizeOf25 [_, _, _] rfl rfl rfl (by simp) [_, _, _] rfl (hl' := [_, _]) rfl fun w H => ?_
      refine c_nil hK ?_
      have h := h.only [4] (l' := [_]) rfl
      obtain rfl := so hS
      refine c_ret (hret19 _ _ (out1 h rfl ⟨_, rfl, run_loadVar_agg (vs := [_, _, _]) Tryz.isAgg25 Tryz.sizeOf25 (H.hp.get 0 rfl) rfl rfl⟩ ?_))
      exact ⟨rfl, H.out⟩
     ·
      have hS := ifF ec21 hS
      refine c_skip ?_
      refine hN19 _ _ ?_
      refine c_flowT 8 h (by kernel_rfl) (by kernel_rfl) fun K hK => ?_
      refine f1 [5] rfl rfl rfl rfl (fun w X => v_move rfl) ?_
      refine f1 [6] rfl rfl rfl rfl (fun w X => v_move rfl) ?_
      obtain ⟨c25, hS⟩ := ck hS
      obtain ⟨z55_26, ez55_26, hS⟩ := bv hS
      refine f_op [54] rfl rfl rfl rfl false (.rel (fun w' v' => At w' v' (eI .i64) z55_26 0)) at_stab (fun w X => ?_) ?_
      ·
       skip
       exact have H := H.ext X; d_idx Tryz.underlying52 Tryz.sizeOf2 rfl rfl (r38_14_1.at H.zin) (fun _ => rfl) z55_26 c25.1 (by rw [ez55_26]; exact gel_some c25)
      refine f_op [55] rfl rfl rfl rfl false (.eq (.int .i64 z55_26)) trivial (fun w X => ?_) ?_
      ·
       intro v55 h55
       exact (v_loadAt1 rfl h55 Tryz.isAgg2 rfl).doesF
      refine f1 [6] rfl rfl rfl rfl (fun w X => v_move rfl) ?_
      obtain ⟨c27, hS⟩ := ck hS
      obtain ⟨z58_28, ez58_28, hS⟩ := bv hS
      refine f_op [57] rfl rfl rfl rfl false (.rel (fun w' v' => At w' v' (eI .i64) z58_28 0)) at_stab (fun w X => ?_) ?_
      ·
       skip
       exact have H := H.ext X; d_idx Tryz.underlying52 Tryz.sizeOf2 rfl rfl (r38_14_1.at H.zin) (fun _ => rfl) z58_28 c27.1 (by rw [ez58_28]; exact gel_some c27)
      refine f_op [58] rfl rfl rfl rfl false (.eq (.int .i64 z58_28)) trivial (fun w X => ?_) ?_
      ·
       intro v58 h58
       exact (v_loadAt1 rfl h58 Tryz.isAgg2 rfl).doesF
      obtain ⟨y60_29, hy60_29, hS⟩ := bo hS
      refine f2 (V := .agg #[.int .i64 y60_29.k, .int .i64 y60_29.n, S y60_29.s]) [53, 56, 59] rfl rfl rfl rfl (fun w X => d_call [_, _, _] rfl Tryz.call17 (maths_Two_ok (x0 := y14_2) (x1 := z55_26) (x2 := z58_28) hy60_29)) ?_
      refine fn_ ?_
      intro a w X hR hA
      have h := hR.out [4, 60]
      have h : Fr 129 [(60, _), (4, _)] a := h
      have H := H.ext X
      refine z_store h H 0 rfl rfl rfl Tryz.sizeOf25 [_, _, _] rfl rfl rfl (by simp) [_, _, _] rfl (hl' := [_, _]) rfl fun w H => ?_
      refine c_nil hK ?_
      obtain rfl := so hS
      refine c_ret (hret9 _ _ (out1 h rfl ⟨_, rfl, run_loadVar_agg (vs := [_, _, _]) Tryz.isAgg25 Tryz.sizeOf25 (H.hp.get 0 rfl) rfl rfl⟩ ?_))
      exact ⟨rfl, H.out⟩
   ·
    have hS := ifF ec12 hS
    obtain ⟨J31, eJ31, hS⟩ := bv hS
    refine c_seq (fun a w => ∃ (Z : FZ) (s31 : Bool), J31 s31 = some res ∧ Fr 129 [(1, xv1), (4, .pointer (some ⟨p4_1, 0, none⟩)), (5, S y14_2), (21, S y14_2), (61, .bool s31)] a ∧ HZ w0 Zi Z [.blk p4_1 (Cel [.int .i64 0, .int .i64 0, S []] 25)] w ∧ RdN Z xv1 argEnc x1) ?_ fun Q30 hN30 hO30 => ?_
    ·
     rintro a w ⟨Z, s31, hS, h, H, rp1⟩
     subst eJ31
     refine c_cond h rfl (fun ec32 => ?_) (fun ec32 => ?_)
     ·
      have hS := ifT ec32 hS
      refine c_region fun K hK => ?_
      refine st1 h rfl rfl rfl (v_move rfl) fun a h => ?_
      obtain ⟨y73_33, hy73_33, hS⟩ := bo hS
      refine st2 h rfl rfl rfl (d_call [_] rfl Tryz.call29 (funcs_strs_ok (x0 := x1) hy73_33 (rp1.hz H.zin) (hG.ext H.out))) ?_
      rintro v_ w ⟨v73_34_1, rfl, r73_34_1, X⟩ a h
      obtain ⟨Z, hsub, hadd, H⟩ := H.adopt' X
      have rp1 := rp1.sub hsub
      have r73_34_1 := r73_34_1.sub (ZB.empty.trans hadd)
      refine st1 h rfl rfl rfl (v_move rfl) fun a h => ?_
      refine st1 h rfl rfl rfl (v_extract rfl rfl) fun a h => ?_
      refine st1 h rfl rfl rfl (v_extract rfl rfl) fun a h => ?_
      refine z_alloc h H Tryz.zeroValue25 [_, _, _] rfl rfl fun a p9_35 w X H h => ?_
      have H : HZ w0 _ _ [_, _] _ := H
      refine st1 h rfl rfl rfl (v_assign rfl) fun a h => ?_
      refine z_store h H 1 rfl rfl rfl Tryz.sizeOf25 [_, _, _] rfl rfl rfl (by simp) [_, _, _] rfl (hl' := [_, _]) rfl fun w H => ?_
      refine c_nil hK ?_
      have h := h.only [4, 5, 8, 9] (l' := [_, _, _, _]) rfl
      refine c_seq _ (fun a w c => c) fun Q36 hN36 hO36 => ?_
      have hret36 := hO36.ret hret9
      have hx0_36 := hO36.exit (i := 0) rfl hx0_9
      refine c_region fun K hK => ?_
      refine st1 h rfl rfl rfl (v_fieldAddr rfl Tryz.underlying25 rfl Tryz.sizeOf3 rfl rfl) fun a h => ?_
      refine st1 h rfl rfl rfl (v_load1 rfl Tryz.isAgg3 (H.hp.get 1 rfl) rfl) fun a h => ?_
      obtain ⟨z78_37, ez78_37, hS⟩ := bv hS
      refine st1 h rfl rfl rfl (vB ez78_37 (v_eq rfl rfl)) fun a h => ?_
      refine c_nil hK ?_
      refine c_cond h rfl (fun ec38 => ?_) (fun ec38 => ?_)
      ·
       have hS := ifT ec38 hS
       refine c_region fun K hK => ?_
       refine st1 h rfl rfl rfl (v_loadA [_, _, _] rfl Tryz.isAgg25 Tryz.sizeOf25 (H.hp.get 1 rfl) rfl rfl) fun a h => ?_
       refine z_store h H 0 rfl rfl rfl Tryz.sizeOf25 [_, _, _] rfl rfl rfl (by simp) [_, _, _] rfl (hl' := [_, _]) rfl fun w H => ?_
       refine c_nil hK ?_
       have h := h.only [4] (l' := [_]) rfl
       obtain rfl := so hS
       refine c_ret (hret36 _ _ (out1 h rfl ⟨_, rfl, run_loadVar_agg (vs := [_, _, _]) Tryz.isAgg25 Tryz.sizeOf25 (H.hp.get 0 rfl) rfl rfl⟩ ?_))
       exact ⟨rfl, H.out⟩
      ·
       have hS := ifF ec38 hS
       refine c_skip ?_
       refine hN36 _ _ ?_
       have h := h.only [4, 5, 8] (l' := [_, _, _]) rfl
       refine c_seq _ (fun a w c => c) fun Q39 hN39 hO39 => ?_
       have hret39 := hO39.ret hret9
       have hx0_39 := hO39.exit (i := 0) rfl hx0_9
       refine c_region fun K hK => ?_
       refine st1 h rfl rfl rfl (v_move rfl) fun a h => ?_
       refine st1 h rfl rfl rfl (v_len Tryz.underlying36 rfl (r73_34_1.at H.zin)) fun a h => ?_
       obtain ⟨z82_40, ez82_40, hS⟩ := bv hS
       refine st1 h rfl rfl rfl (vB ez82_40 (v_eq rfl rfl)) fun a h => ?_
       refine st1 h rfl rfl rfl (v_move rfl) fun a h => ?_
       refine st_g h rfl rfl (gT rfl) rfl rfl (fun e0 => v_move rfl) fun a h => ?_
       obtain ⟨z85_41, ez85_41, hS⟩ := bv hS
       refine st_g h rfl rfl (gT rfl) rfl rfl (fun e0 => vB ez85_41 (v_sne (eg e0 rfl) rfl)) fun a h => ?_
       obtain ⟨z86_42, ez86_42, hS⟩ := bv hS
       refine st1 h rfl rfl rfl (vB ez86_42 (v_and rfl rfl)) fun a h => ?_
       refine c_nil hK ?_
       have h := h.only [4, 5, 8, 86] (l' := [_, _, _, _]) rfl
       refine c_cond h rfl (fun ec43 => ?_) (fun ec43 => ?_)
       ·
        have hS := ifT ec43 hS
        refine c_region fun K hK => ?_
        refine st1 h rfl rfl rfl (v_move rfl) fun a h => ?_
        refine st1 h rfl rfl rfl (v_move rfl) fun a h => ?_
        obtain ⟨c44, hS⟩ := ck hS
        obtain ⟨z89_45, ez89_45, hS⟩ := bv hS
        refine st_idx h Tryz.underlying36 Tryz.sizeOf9 rfl rfl (r73_34_1.at H.zin) (fun _ => rfl) z89_45 c44.1 (by rw [ez89_45]; exact gel_some c44) rfl fun a v89 A89 h => ?_
        refine st1 h rfl rfl rfl (v_loadAt1 rfl A89 Tryz.isAgg9 rfl) fun a h => ?_
        obtain ⟨y91_46, hy91_46, hS⟩ := bo hS
        refine st2v (T := Ext) (V := .agg #[.int .i64 y91_46.k, .int .i64 y91_46.n, S y91_46.s]) h rfl rfl rfl (d_call [_, _] rfl Tryz.call19 (texts_One_ok (x0 := y14_2) (x1 := z89_45) hy91_46)) fun w X a h => ?_
        have H := H.ext X
        have A89 := At.ext A89 X
        refine z_store h H 0 rfl rfl rfl Tryz.sizeOf25 [_, _, _] rfl rfl rfl (by simp) [_, _, _] rfl (hl' := [_, _]) rfl fun w H => ?_
        refine c_nil hK ?_
        have h := h.only [4] (l' := [_]) rfl
        obtain rfl := so hS
        refine c_ret (hret39 _ _ (out1 h rfl ⟨_, rfl, run_loadVar_agg (vs := [_, _, _]) Tryz.isAgg25 Tryz.sizeOf25 (H.hp.get 0 rfl) rfl rfl⟩ ?_))
        exact ⟨rfl, H.out⟩
       ·
        have hS := ifF ec43 hS
        refine c_skip ?_
        refine hN39 _ _ ?_
        refine c_region fun K hK => ?_
        refine st1 h rfl rfl rfl (v_move rfl) fun a h => ?_
        refine st1 h rfl rfl rfl (v_move rfl) fun a h => ?_
        obtain ⟨y94_47, hy94_47, hS⟩ := bo hS
        refine st2v (T := Ext) (V := .agg #[.int .i64 y94_47.k, .int .i64 y94_47.n, S y94_47.s]) h rfl rfl rfl (d_call [_, _] rfl Tryz.call21 (texts_More_ok (x0 := y14_2) (x1 := y73_33.1) hy94_47 (r73_34_1.hz H.zin) (hG.ext H.out))) fun w X a h => ?_
        have H := H.ext X
        refine z_store h H 0 rfl rfl rfl Tryz.sizeOf25 [_, _, _] rfl rfl rfl (by simp) [_, _, _] rfl (hl' := [_, _]) rfl fun w H => ?_
        refine c_nil hK ?_
        have h := h.only [4] (l' := [_]) rfl
        obtain rfl := so hS
        refine c_ret (hret9 _ _ (out1 h rfl ⟨_, rfl, run_loadVar_agg (vs := [_, _, _]) Tryz.isAgg25 Tryz.sizeOf25 (H.hp.get 0 rfl) rfl rfl⟩ ?_))
        exact ⟨rfl, H.out⟩
     ·
      have hS := ifF ec32 hS
      obtain ⟨J49, eJ49, hS⟩ := bv hS
      refine c_seq (fun a w => ∃ (Z : FZ) (s49 : Bool), J49 s49 = some res ∧ Fr 129 [(1, xv1), (4, .pointer (some ⟨p4_1, 0, none⟩)), (5, S y14_2), (95, .bool s49)] a ∧ HZ w0 Zi Z [.blk p4_1 (Cel [.int .i64 0, .int .i64 0, S []] 25)] w ∧ RdN Z xv1 argEnc x1) ?_ fun Q48 hN48 hO48 => ?_
      ·
       rintro a w ⟨Z, s49, hS, h, H, rp1⟩
       subst eJ49
       refine c_cond h rfl (fun ec50 => ?_) (fun ec50 => ?_)
       ·
        have hS := ifT ec50 hS
        refine c_region fun K hK => ?_
        refine st1 h rfl rfl rfl (v_move rfl) fun a h => ?_
        obtain ⟨c51, hS⟩ := ck hS
        obtain ⟨z102_52, ez102_52, hS⟩ := bv hS
        refine z_partN_h (E := argEnc) h Tryz.underlying27 Tryz.sizeOf29 rfl rfl rp1 c51 rfl fun a v102_53 r102_53 h => ?_
        rw [← ez102_52] at r102_53
        obtain ⟨y103_54, hy103_54, hS⟩ := bo hS
        refine st2 h rfl rfl rfl (d_call [_] rfl Tryz.call29 (funcs_strs_ok (x0 := z102_52) hy103_54 (r102_53.hz H.zin) (hG.ext H.out))) ?_
        rintro v_ w ⟨v103_55_1, rfl, r103_55_1, X⟩ a h
        obtain ⟨Z, hsub, hadd, H⟩ := H.adopt' X
        have r102_53 := r102_53.sub hsub
        have rp1 := rp1.sub hsub
        have r103_55_1 := r103_55_1.sub (ZB.empty.trans hadd)
        refine st1 h rfl rfl rfl (v_move rfl) fun a h => ?_
        refine st1 h rfl rfl rfl (v_extract rfl rfl) fun a h => ?_
        refine st1 h rfl rfl rfl (v_extract rfl rfl) fun a h => ?_
        refine z_alloc h H Tryz.zeroValue25 [_, _, _] rfl rfl fun a p11_56 w X H h => ?_
        have H : HZ w0 _ _ [_, _] _ := H
        refine st1 h rfl rfl rfl (v_assign rfl) fun a h => ?_
        refine z_store h H 1 rfl rfl rfl Tryz.sizeOf25 [_, _, _] rfl rfl rfl (by simp) [_, _, _] rfl (hl' := [_, _]) rfl fun w H => ?_
        refine c_nil hK ?_
        have h := h.only [1, 4, 5, 10, 11] (l' := [_, _, _, _, _]) rfl
        refine c_seq _ (fun a w c => c) fun Q57 hN57 hO57 => ?_
        have hret57 := hO57.ret hret9
        have hx0_57 := hO57.exit (i := 0) rfl hx0_9
        refine c_region fun K hK => ?_
        refine st1 h rfl rfl rfl (v_fieldAddr rfl Tryz.underlying25 rfl Tryz.sizeOf3 rfl rfl) fun a h => ?_
        refine st1 h rfl rfl rfl (v_load1 rfl Tryz.isAgg3 (H.hp.get 1 rfl) rfl) fun a h => ?_
        obtain ⟨z108_58, ez108_58, hS⟩ := bv hS
        refine st1 h rfl rfl rfl (vB ez108_58 (v_eq rfl rfl)) fun a h => ?_
        refine c_nil hK ?_
        refine c_cond h rfl (fun ec59 => ?_) (fun ec59 => ?_)
        ·
         have hS := ifT ec59 hS
         refine c_region fun K hK => ?_
         refine st1 h rfl rfl rfl (v_loadA [_, _, _] rfl Tryz.isAgg25 Tryz.sizeOf25 (H.hp.get 1 rfl) rfl rfl) fun a h => ?_
         refine z_store h H 0 rfl rfl rfl Tryz.sizeOf25 [_, _, _] rfl rfl rfl (by simp) [_, _, _] rfl (hl' := [_, _]) rfl fun w H => ?_
         refine c_nil hK ?_
         have h := h.only [4] (l' := [_]) rfl
         obtain rfl := so hS
         refine c_ret (hret57 _ _ (out1 h rfl ⟨_, rfl, run_loadVar_agg (vs := [_, _, _]) Tryz.isAgg25 Tryz.sizeOf25 (H.hp.get 0 rfl) rfl rfl⟩ ?_))
         exact ⟨rfl, H.out⟩
        ·
         have hS := ifF ec59 hS
         refine c_skip ?_
         refine hN57 _ _ ?_
         refine c_region fun K hK => ?_
         refine st1 h rfl rfl rfl (v_move rfl) fun a h => ?_
         obtain ⟨c60, hS⟩ := ck hS
         obtain ⟨z112_61, ez112_61, hS⟩ := bv hS
         refine z_partN_l (E := argEnc) h Tryz.underlying27 Tryz.sizeOf29 rfl rfl rp1 c60 rfl fun a v112_62 r112_62 h => ?_
         rw [← ez112_61] at r112_62
         obtain ⟨y113_63, hy113_63, hS⟩ := bo hS
         refine st2 h rfl rfl rfl (d_call [_] rfl Tryz.call28 (funcs_nums_ok (x0 := z112_61) hy113_63 (r112_62.hz H.zin))) ?_
         rintro v_ w ⟨v113_64_1, rfl, r113_64_1, X⟩ a h
         obtain ⟨Z, hsub, hadd, H⟩ := H.adopt' X
         have r103_55_1 := r103_55_1.sub hsub
         have r112_62 := r112_62.sub hsub
         have rp1 := rp1.sub hsub
         have r113_64_1 := r113_64_1.sub (ZB.empty.trans hadd)
         refine st1 h rfl rfl rfl (v_move rfl) fun a h => ?_
         refine st1 h rfl rfl rfl (v_extract rfl rfl) fun a h => ?_
         refine st1 h rfl rfl rfl (v_extract rfl rfl) fun a h => ?_
         refine st1 h rfl rfl rfl (v_assign rfl) fun a h => ?_
         refine z_store h H 1 rfl rfl rfl Tryz.sizeOf25 [_, _, _] rfl rfl rfl (by simp) [_, _, _] rfl (hl' := [_, _]) rfl fun w H => ?_
         refine c_nil hK ?_
         have h := h.only [4, 5, 10, 11, 12] (l' := [_, _, _, _, _]) rfl
         refine c_seq _ (fun a w c => c) fun Q65 hN65 hO65 => ?_
         have hret65 := hO65.ret hret9
         have hx0_65 := hO65.exit (i := 0) rfl hx0_9
         refine c_region fun K hK => ?_
         refine st1 h rfl rfl rfl (v_fieldAddr rfl Tryz.underlying25 rfl Tryz.sizeOf3 rfl rfl) fun a h => ?_
         refine st1 h rfl rfl rfl (v_load1 rfl Tryz.isAgg3 (H.hp.get 1 rfl) rfl) fun a h => ?_
         obtain ⟨z118_66, ez118_66, hS⟩ := bv hS
         refine st1 h rfl rfl rfl (vB ez118_66 (v_eq rfl rfl)) fun a h => ?_
         refine c_nil hK ?_
         refine c_cond h rfl (fun ec67 => ?_) (fun ec67 => ?_)
         ·
          have hS := ifT ec67 hS
          refine c_region fun K hK => ?_
          refine st1 h rfl rfl rfl (v_loadA [_, _, _] rfl Tryz.isAgg25 Tryz.sizeOf25 (H.hp.get 1 rfl) rfl rfl) fun a h => ?_
          refine z_store h H 0 rfl rfl rfl Tryz.sizeOf25 [_, _, _] rfl rfl rfl (by simp) [_, _, _] rfl (hl' := [_, _]) rfl fun w H => ?_
          refine c_nil hK ?_
          have h := h.only [4] (l' := [_]) rfl
          obtain rfl := so hS
          refine c_ret (hret65 _ _ (out1 h rfl ⟨_, rfl, run_loadVar_agg (vs := [_, _, _]) Tryz.isAgg25 Tryz.sizeOf25 (H.hp.get 0 rfl) rfl rfl⟩ ?_))
          exact ⟨rfl, H.out⟩
         ·
          have hS := ifF ec67 hS
          refine c_skip ?_
          refine hN65 _ _ ?_
          have h := h.only [4, 5, 10, 12] (l' := [_, _, _, _]) rfl
          refine c_region fun K hK => ?_
          refine st1 h rfl rfl rfl (v_move rfl) fun a h => ?_
          refine st1 h rfl rfl rfl (v_move rfl) fun a h => ?_
          obtain ⟨c68, hS⟩ := ck hS
          obtain ⟨z122_69, ez122_69, hS⟩ := bv hS
          refine st_idx h Tryz.underlying36 Tryz.sizeOf9 rfl rfl (r103_55_1.at H.zin) (fun _ => rfl) z122_69 c68.1 (by rw [ez122_69]; exact gel_some c68) rfl fun a v122 A122 h => ?_
          refine st1 h rfl rfl rfl (v_loadAt1 rfl A122 Tryz.isAgg9 rfl) fun a h => ?_
          refine st1 h rfl rfl rfl (v_move rfl) fun a h => ?_
          obtain ⟨y125_70, hy125_70, hS⟩ := bo hS
          refine st2v (T := Ext) (V := .agg #[.int .i64 y125_70.k, .int .i64 y125_70.n, S y125_70.s]) h rfl rfl rfl (d_call [_, _, _] rfl Tryz.call20 (texts_Part_ok (x0 := y14_2) (x1 := z122_69) (x2 := y113_63.1) hy125_70 (r113_64_1.hz H.zin))) fun w X a h => ?_
          have H := H.ext X
          have A122 := At.ext A122 X
          refine z_store h H 0 rfl rfl rfl Tryz.sizeOf25 [_, _, _] rfl rfl rfl (by simp) [_, _, _] rfl (hl' := [_, _]) rfl fun w H => ?_
          refine c_nil hK ?_
          have h := h.only [4] (l' := [_]) rfl
          obtain rfl := so hS
          refine c_ret (hret9 _ _ (out1 h rfl ⟨_, rfl, run_loadVar_agg (vs := [_, _, _]) Tryz.isAgg25 Tryz.sizeOf25 (H.hp.get 0 rfl) rfl rfl⟩ ?_))
          exact ⟨rfl, H.out⟩
       ·
        have hS := ifF ec50 hS
        refine c_skip ?_
        refine hN9 _ _ ?_
        refine hN8 _ _ ?_
        refine c_region fun K hK => ?_
        refine st1 h rfl rfl rfl (v_move rfl) fun a h => ?_
        refine st1 h rfl rfl rfl (v_move rfl) fun a h => ?_
        obtain ⟨y128_71, hy128_71, hS⟩ := bo hS
        refine st2v (T := Ext) (V := .agg #[.int .i64 y128_71.k, .int .i64 y128_71.n, S y128_71.s]) h rfl rfl rfl (d_call [_, _] rfl Tryz.call30 (funcs_list_ok (x0 := y14_2) (x1 := x1) hy128_71 (rp1.hz H.zin))) fun w X a h => ?_
        have H := H.ext X
        refine z_store h H 0 rfl rfl rfl Tryz.sizeOf25 [_, _, _] rfl rfl rfl (by simp) [_, _, _] rfl (hl' := [_]) rfl fun w H => ?_
        refine c_nil hK ?_
        have h := h.only [4] (l' := [_]) rfl
        obtain rfl := so hS
        refine c_ret (hret0 _ _ (out1 h rfl ⟨_, rfl, run_loadVar_agg (vs := [_, _, _]) Tryz.isAgg25 Tryz.sizeOf25 (H.hp.get 0 rfl) rfl rfl⟩ ?_))
        exact ⟨rfl, H.out⟩
      ·
       have hret48 := hO48.ret hret9
       have hx0_48 := hO48.exit (i := 0) rfl hx0_9
       refine c_region fun K hK => ?_
       obtain ⟨z96_72, ez96_72, hS⟩ := bv hS
       refine st1 h rfl rfl rfl (vB ez96_72 (v_seq rfl rfl)) fun a h => ?_
       refine st1 h rfl rfl rfl (v_assign rfl) fun a h => ?_
       refine c_nil hK ?_
       refine c_cond h rfl (fun ec73 => ?_) (fun ec73 => ?_)
       ·
        have hS := ifT ec73 hS
        refine c_skip ?_
        exact hN48 _ _ ⟨_, z96_72, hS, (h.only [1, 4, 5, 95] (l' := [_, _, _, _]) rfl), H, rp1⟩
       ·
        have hS := ifF ec73 hS
        refine c_region fun K hK => ?_
        obtain ⟨z97_74, ez97_74, hS⟩ := bv hS
        refine st1 h rfl rfl rfl (vB ez97_74 (v_seq rfl rfl)) fun a h => ?_
        refine st1 h rfl rfl rfl (v_assign rfl) fun a h => ?_
        refine c_nil hK ?_
        refine c_cond h rfl (fun ec75 => ?_) (fun ec75 => ?_)
        ·
         have hS := ifT ec75 hS
         refine c_skip ?_
         exact hN48 _ _ ⟨_, z97_74, hS, (h.only [1, 4, 5, 95] (l' := [_, _, _, _]) rfl), H, rp1⟩
        ·
         have hS := ifF ec75 hS
         refine c_region fun K hK => ?_
         obtain ⟨z98_76, ez98_76, hS⟩ := bv hS
         refine st1 h rfl rfl rfl (vB ez98_76 (v_seq rfl rfl)) fun a h => ?_
         refine st1 h rfl rfl rfl (v_assign rfl) fun a h => ?_
         refine c_nil hK ?_
         have h := h.only [1, 4, 5, 21, 95] (l' := [_, _, _, _, _]) rfl
         refine c_cond h rfl (fun ec77 => ?_) (fun ec77 => ?_)
         ·
          have hS := ifT ec77 hS
          refine c_skip ?_
          exact hN48 _ _ ⟨_, z98_76, hS, (h.only [1, 4, 5, 95] (l' := [_, _, _, _]) rfl), H, rp1⟩
         ·
          have hS := ifF ec77 hS
          refine c_lregion ?_
          obtain ⟨z99_78, ez99_78, hS⟩ := bv hS
          refine st1 h rfl rfl rfl (vB ez99_78 (v_seq rfl rfl)) fun a h => ?_
          refine st1 h rfl rfl rfl (v_assign rfl) fun a h => ?_
          refine c_lnil ?_
          exact hN48 _ _ ⟨_, z99_78, hS, (h.only [1, 4, 5, 95] (l' := [_, _, _, _]) rfl), H, rp1⟩
    ·
     have hret30 := hO30.ret hret9
     have hx0_30 := hO30.exit (i := 0) rfl hx0_9
     refine c_region fun K hK => ?_
     obtain ⟨z62_79, ez62_79, hS⟩ := bv hS
     refine st1 h rfl rfl rfl (vB ez62_79 (v_seq rfl rfl)) fun a h => ?_
     refine st1 h rfl rfl rfl (v_assign rfl) fun a h => ?_
     refine c_nil hK ?_
     refine c_cond h rfl (fun ec80 => ?_) (fun ec80 => ?_)
     ·
      have hS := ifT ec80 hS
      refine c_skip ?_
      exact hN30 _ _ ⟨_, z62_79, hS, (h.only [1, 4, 5, 21, 61] (l' := [_, _, _, _, _]) rfl), H, rp1⟩
     ·
      have hS := ifF ec80 hS
      refine c_region fun K hK => ?_
      obtain ⟨z63_81, ez63_81, hS⟩ := bv hS
      refine st1 h rfl rfl rfl (vB ez63_81 (v_seq rfl rfl)) fun a h => ?_
      refine st1 h rfl rfl rfl (v_assign rfl) fun a h => ?_
      refine c_nil hK ?_
      refine c_cond h rfl (fun ec82 => ?_) (fun ec82 => ?_)
      ·
       have hS := ifT ec82 hS
       refine c_skip ?_
       exact hN30 _ _ ⟨_, z63_81, hS, (h.only [1, 4, 5, 21, 61] (l' := [_, _, _, _, _]) rfl), H, rp1⟩
      ·
       have hS := ifF ec82 hS
       refine c_region fun K hK => ?_
       obtain ⟨z64_83, ez64_83, hS⟩ := bv hS
       refine st1 h rfl rfl rfl (vB ez64_83 (v_seq rfl rfl)) fun a h => ?_
       refine st1 h rfl rfl rfl (v_assign rfl) fun a h => ?_
       refine c_nil hK ?_
       have h := h.only [1, 4, 5, 21, 61] (l' := [_, _, _, _, _]) rfl
       refine c_cond h rfl (fun ec84 => ?_) (fun ec84 => ?_)
       ·
        have hS := ifT ec84 hS
        refine c_skip ?_
        exact hN30 _ _ ⟨_, z64_83, hS, (h.only [1, 4, 5, 21, 61] (l' := [_, _, _, _, _]) rfl), H, rp1⟩
       ·
        have hS := ifF ec84 hS
        refine c_region fun K hK => ?_
        obtain ⟨z65_85, ez65_85, hS⟩ := bv hS
        refine st1 h rfl rfl rfl (vB ez65_85 (v_seq rfl rfl)) fun a h => ?_
        refine st1 h rfl rfl rfl (v_assign rfl) fun a h => ?_
        refine c_nil hK ?_
        refine c_cond h rfl (fun ec86 => ?_) (fun ec86 => ?_)
        ·
         have hS := ifT ec86 hS
         refine c_skip ?_
         exact hN30 _ _ ⟨_, z65_85, hS, (h.only [1, 4, 5, 21, 61] (l' := [_, _, _, _, _]) rfl), H, rp1⟩
        ·
         have hS := ifF ec86 hS
         refine c_region fun K hK => ?_
         obtain ⟨z66_87, ez66_87, hS⟩ := bv hS
         refine st1 h rfl rfl rfl (vB ez66_87 (v_seq rfl rfl)) fun a h => ?_
         refine st1 h rfl rfl rfl (v_assign rfl) fun a h => ?_
         refine c_nil hK ?_
         refine c_cond h rfl (fun ec88 => ?_) (fun ec88 => ?_)
         ·
          have hS := ifT ec88 hS
          refine c_skip ?_
          exact hN30 _ _ ⟨_, z66_87, hS, (h.only [1, 4, 5, 21, 61] (l' := [_, _, _, _, _]) rfl), H, rp1⟩
         ·
          have hS := ifF ec88 hS
          refine c_region fun K hK => ?_
          obtain ⟨z67_89, ez67_89, hS⟩ := bv hS
          refine st1 h rfl rfl rfl (vB ez67_89 (v_seq rfl rfl)) fun a h => ?_
          refine st1 h rfl rfl rfl (v_assign rfl) fun a h => ?_
          refine c_nil hK ?_
          refine c_cond h rfl (fun ec90 => ?_) (fun ec90 => ?_)
          ·
           have hS := ifT ec90 hS
           refine c_skip ?_
           exact hN30 _ _ ⟨_, z67_89, hS, (h.only [1, 4, 5, 21, 61] (l' := [_, _, _, _, _]) rfl), H, rp1⟩
          ·
           have hS := ifF ec90 hS
           refine c_region fun K hK => ?_
           obtain ⟨z68_91, ez68_91, hS⟩ := bv hS
           refine st1 h rfl rfl rfl (vB ez68_91 (v_seq rfl rfl)) fun a h => ?_
           refine st1 h rfl rfl rfl (v_assign rfl) fun a h => ?_
           refine c_nil hK ?_
           have h := h.only [1, 4, 5, 21, 61] (l' := [_, _, _, _, _]) rfl
           refine c_cond h rfl (fun ec92 => ?_) (fun ec92 => ?_)
           ·
            have hS := ifT ec92 hS
            refine c_skip ?_
            exact hN30 _ _ ⟨_, z68_91, hS, (h.only [1, 4, 5, 21, 61] (l' := [_, _, _, _, _]) rfl), H, rp1⟩
           ·
            have hS := ifF ec92 hS
            refine c_region fun K hK => ?_
            obtain ⟨z69_93, ez69_93, hS⟩ := bv hS
            refine st1 h rfl rfl rfl (vB ez69_93 (v_seq rfl rfl)) fun a h => ?_
            refine st1 h rfl rfl rfl (v_assign rfl) fun a h => ?_
            refine c_nil hK ?_
            refine c_cond h rfl (fun ec94 => ?_) (fun ec94 => ?_)
            ·
             have hS := ifT ec94 hS
             refine c_skip ?_
             exact hN30 _ _ ⟨_, z69_93, hS, (h.only [1, 4, 5, 21, 61] (l' := [_, _, _, _, _]) rfl), H, rp1⟩
            ·
             have hS := ifF ec94 hS
             refine c_lregion ?_
             obtain ⟨z70_95, ez70_95, hS⟩ := bv hS
             refine st1 h rfl rfl rfl (vB ez70_95 (v_seq rfl rfl)) fun a h => ?_
             refine st1 h rfl rfl rfl (v_assign rfl) fun a h => ?_
             refine c_lnil ?_
             exact hN30 _ _ ⟨_, z70_95, hS, (h.only [1, 4, 5, 21, 61] (l' := [_, _, _, _, _]) rfl), H, rp1⟩
  ·
   have hret10 := hO10.ret hret9
   have hx0_10 := hO10.exit (i := 0) rfl hx0_9
   refine c_region fun K hK => ?_
   obtain ⟨z23_96, ez23_96, hS⟩ := bv hS
   refine st1 h rfl rfl rfl (vB ez23_96 (v_seq rfl rfl)) fun a h => ?_
   refine st1 h rfl rfl rfl (v_assign rfl) fun a h => ?_
   refine c_nil hK ?_
   refine c_cond h rfl (fun ec97 => ?_) (fun ec97 => ?_)
   ·
    have hS := ifT ec97 hS
    refine c_skip ?_
    exact hN10 _ _ ⟨_, z23_96, hS, (h.only [1, 4, 5, 21, 22] (l' := [_, _, _, _, _]) rfl), H, rp1⟩
   ·
    have hS := ifF ec97 hS
    refine c_region fun K hK => ?_
    obtain ⟨z24_98, ez24_98, hS⟩ := bv hS
    refine st1 h rfl rfl rfl (vB ez24_98 (v_seq rfl rfl)) fun a h => ?_
    refine st1 h rfl rfl rfl (v_assign rfl) fun a h => ?_
    refine c_nil hK ?_
    refine c_cond h rfl (fun ec99 => ?_) (fun ec99 => ?_)
    ·
     have hS := ifT ec99 hS
     refine c_skip ?_
     exact hN10 _ _ ⟨_, z24_98, hS, (h.only [1, 4, 5, 21, 22] (l' := [_, _, _, _, _]) rfl), H, rp1⟩
    ·
     have hS := ifF ec99 hS
     refine c_region fun K hK => ?_
     obtain ⟨z25_100, ez25_100, hS⟩ := bv hS
     refine st1 h rfl rfl rfl (vB ez25_100 (v_seq rfl rfl)) fun a h => ?_
     refine st1 h rfl rfl rfl (v_assign rfl) fun a h => ?_
     refine c_nil hK ?_
     have h := h.only [1, 4, 5, 21, 22] (l' := [_, _, _, _, _]) rfl
     refine c_cond h rfl (fun ec101 => ?_) (fun ec101 => ?_)
     ·
      have hS := ifT ec101 hS
      refine c_skip ?_
      exact hN10 _ _ ⟨_, z25_100, hS, (h.only [1, 4, 5, 21, 22] (l' := [_, _, _, _, _]) rfl), H, rp1⟩
     ·
      have hS := ifF ec101 hS
      refine c_region fun K hK => ?_
      obtain ⟨z26_102, ez26_102, hS⟩ := bv hS
      refine st1 h rfl rfl rfl (vB ez26_102 (v_seq rfl rfl)) fun a h => ?_
      refine st1 h rfl rfl rfl (v_assign rfl) fun a h => ?_
      refine c_nil hK ?_
      refine c_cond h rfl (fun ec103 => ?_) (fun ec103 => ?_)
      ·
       have hS := ifT ec103 hS
       refine c_skip ?_
       exact hN10 _ _ ⟨_, z26_102, hS, (h.only [1, 4, 5, 21, 22] (l' := [_, _, _, _, _]) rfl), H, rp1⟩
      ·
       have hS := ifF ec103 hS
       refine c_region fun K hK => ?_
       obtain ⟨z27_104, ez27_104, hS⟩ := bv hS
       refine st1 h rfl rfl rfl (vB ez27_104 (v_seq rfl rfl)) fun a h => ?_
       refine st1 h rfl rfl rfl (v_assign rfl) fun a h => ?_
       refine c_nil hK ?_
       refine c_cond h rfl (fun ec105 => ?_) (fun ec105 => ?_)
       ·
        have hS := ifT ec105 hS
        refine c_skip ?_
        exact hN10 _ _ ⟨_, z27_104, hS, (h.only [1, 4, 5, 21, 22] (l' := [_, _, _, _, _]) rfl), H, rp1⟩
       ·
        have hS := ifF ec105 hS
        refine c_region fun K hK => ?_
        obtain ⟨z28_106, ez28_106, hS⟩ := bv hS
        refine st1 h rfl rfl rfl (vB ez28_106 (v_seq rfl rfl)) fun a h => ?_
        refine st1 h rfl rfl rfl (v_assign rfl) fun a h => ?_
        refine c_nil hK ?_
        refine c_cond h rfl (fun ec107 => ?_) (fun ec107 => ?_)
        ·
         have hS := ifT ec107 hS
         refine c_skip ?_
         exact hN10 _ _ ⟨_, z28_106, hS, (h.only [1, 4, 5, 21, 22] (l' := [_, _, _, _, _]) rfl), H, rp1⟩
        ·
         have hS := ifF ec107 hS
         refine c_region fun K hK => ?_
         obtain ⟨z29_108, ez29_108, hS⟩ := bv hS
         refine st1 h rfl rfl rfl (vB ez29_108 (v_seq rfl rfl)) fun a h => ?_
         refine st1 h rfl rfl rfl (v_assign rfl) fun a h => ?_
         refine c_nil hK ?_
         have h := h.only [1, 4, 5, 21, 22] (l' := [_, _, _, _, _]) rfl
         refine c_cond h rfl (fun ec109 => ?_) (fun ec109 => ?_)
         ·
          have hS := ifT ec109 hS
          refine c_skip ?_
          exact hN10 _ _ ⟨_, z29_108, hS, (h.only [1, 4, 5, 21, 22] (l' := [_, _, _, _, _]) rfl), H, rp1⟩
         ·
          have hS := ifF ec109 hS
          refine c_region fun K hK => ?_
          obtain ⟨z30_110, ez30_110, hS⟩ := bv hS
          refine st1 h rfl rfl rfl (vB ez30_110 (v_seq rfl rfl)) fun a h => ?_
          refine st1 h rfl rfl rfl (v_assign rfl) fun a h => ?_
          refine c_nil hK ?_
          refine c_cond h rfl (fun ec111 => ?_) (fun ec111 => ?_)
          ·
           have hS := ifT ec111 hS
           refine c_skip ?_
           exact hN10 _ _ ⟨_, z30_110, hS, (h.only [1, 4, 5, 21, 22] (l' := [_, _, _, _, _]) rfl), H, rp1⟩
          ·
           have hS := ifF ec111 hS
           refine c_region fun K hK => ?_
           obtain ⟨z31_112, ez31_112, hS⟩ := bv hS
           refine st1 h rfl rfl rfl (vB ez31_112 (v_seq rfl rfl)) fun a h => ?_
           refine st1 h rfl rfl rfl (v_assign rfl) fun a h => ?_
           refine c_nil hK ?_
           refine c_cond h rfl (fun ec113 => ?_) (fun ec113 => ?_)
           ·
            have hS := ifT ec113 hS
            refine c_skip ?_
            exact hN10 _ _ ⟨_, z31_112, hS, (h.only [1, 4, 5, 21, 22] (l' := [_, _, _, _, _]) rfl), H, rp1⟩
           ·
            have hS := ifF ec113 hS
            refine c_region fun K hK => ?_
            obtain ⟨z32_114, ez32_114, hS⟩ := bv hS
            refine st1 h rfl rfl rfl (vB ez32_114 (v_seq rfl rfl)) fun a h => ?_
            refine st1 h rfl rfl rfl (v_assign rfl) fun a h => ?_
            refine c_nil hK ?_
            refine c_cond h rfl (fun ec115 => ?_) (fun ec115 => ?_)
            ·
             have hS := ifT ec115 hS
             refine c_skip ?_
             exact hN10 _ _ ⟨_, z32_114, hS, (h.only [1, 4, 5, 21, 22] (l' := [_, _, _, _, _]) rfl), H, rp1⟩
            ·
             have hS := ifF ec115 hS
             refine c_region fun K hK => ?_
             obtain ⟨z33_116, ez33_116, hS⟩ := bv hS
             refine st1 h rfl rfl rfl (vB ez33_116 (v_seq rfl rfl)) fun a h => ?_
             refine st1 h rfl rfl rfl (v_assign rfl) fun a h => ?_
             refine c_nil hK ?_
             have h := h.only [1, 4, 5, 21, 22] (l' := [_, _, _, _, _]) rfl
             refine c_cond h rfl (fun ec117 => ?_) (fun ec117 => ?_)
             ·
              have hS := ifT ec117 hS
              refine c_skip ?_
              exact hN10 _ _ ⟨_, z33_116, hS, (h.only [1, 4, 5, 21, 22] (l' := [_, _, _, _, _]) rfl), H, rp1⟩
             ·
              have hS := ifF ec117 hS
              refine c_region fun K hK => ?_
              obtain ⟨z34_118, ez34_118, hS⟩ := bv hS
              refine st1 h rfl rfl rfl (vB ez34_118 (v_seq rfl rfl)) fun a h => ?_
              refine st1 h rfl rfl rfl (v_assign rfl) fun a h => ?_
              refine c_nil hK ?_
              refine c_cond h rfl (fun ec119 => ?_) (fun ec119 => ?_)
              ·
               have hS := ifT ec119 hS
               refine c_skip ?_
               exact hN10 _ _ ⟨_, z34_118, hS, (h.only [1, 4, 5, 21, 22] (l' := [_, _, _, _, _]) rfl), H, rp1⟩
              ·
               have hS := ifF ec119 hS
               refine c_lregion ?_
               obtain ⟨z35_120, ez35_120, hS⟩ := bv hS
               refine st1 h rfl rfl rfl (vB ez35_120 (v_seq rfl rfl)) fun a h => ?_
               refine st1 h rfl rfl rfl (v_assign rfl) fun a h => ?_
               refine c_lnil ?_
               exact hN10 _ _ ⟨_, z35_120, hS, (h.only [1, 4, 5, 21, 22] (l' := [_, _, _, _, _]) rfl), H, rp1⟩

theorem funcs_Binary_ok {x0 : Int} {x1 : V} {x2 : V} {res : V} {w0 : World} (hS : funcs_Binary x0 x1 x2 = some res) (hG : GW w0) : Calls Tryz.prog 23 [.int .i64 x0, .agg #[.int .i64 x1.k, .int .i64 x1.n, S x1.s], .agg #[.int .i64 x2.k, .int .i64 x2.n, S x2.s]].toArray w0 (Ret fun v w => v = .agg #[.int .i64 res.k, .int .i64 res.n, S res.s] ∧ Ext w0 w) := by
 refine enter Tryz.func23 rfl rfl rfl fun Q a h hret0 hnor => ?_
 obtain ⟨Zi, Z, H⟩ : ∃ Zi Z, HZ w0 Zi Z [] w0 := ⟨_, _, HZ.start w0⟩
 have h := h.only [0, 1, 2] (l' := [_, _, _]) rfl
 unfold funcs_Binary at hS
 refine c_region fun K hK => ?_
 refine z_box h H rfl [_, _, _] rfl rfl fun a p4_1 w X H h => ?_
 have H : HZ w0 _ _ [_] _ := H
 refine z_box h H rfl [_, _, _] rfl rfl fun a p5_2 w X H h => ?_
 have H : HZ w0 _ _ [_, _] _ := H
 refine z_alloc h H Tryz.zeroValue25 [_, _, _] rfl rfl fun a p6_3 w X H h => ?_
 have H : HZ w0 _ _ [_, _, _] _ := H
 refine c_nil hK ?_
 refine c_block _ (fun a w c => c) fun Q4 hN4 hx0_4 hO4 => ?_
 have hret4 := hO4.ret hret0
 refine c_region fun K hK => ?_
 refine st1 h rfl rfl rfl (v_move rfl) fun a h => ?_
 obtain ⟨z12_5, ez12_5, hS⟩ := bv hS
 refine st1 h rfl rfl rfl (vB ez12_5 (v_ge rfl rfl)) fun a h => ?_
 refine st1 h rfl rfl rfl (v_assign rfl) fun a h => ?_
 refine c_nil hK ?_
 have h := h.only [0, 4, 5, 6, 10] (l' := [_, _, _, _, _]) rfl
 refine c_cond h rfl (fun ec6 => ?_) (fun ec6 => ?_)
 ·
  have hS := ifT ec6 hS
  refine c_region fun K hK => ?_
  refine st1 h rfl rfl rfl (v_loadA [_, _, _] rfl Tryz.isAgg25 Tryz.sizeOf25 (H.hp.get 0 rfl) rfl rfl) fun a h => ?_
  refine st1 h rfl rfl rfl (v_loadA [_, _, _] rfl Tryz.isAgg25 Tryz.sizeOf25 (H.hp.get 1 rfl) rfl rfl) fun a h => ?_
  obtain ⟨y15_7, hy15_7, hS⟩ := bo hS
  refine st2v (T := Ext) (V := .int .i64 y15_7) h rfl rfl rfl (d_call [_, _] rfl Tryz.call52 (value_Compare_ok (x0 := x1) (x1 := x2) hy15_7)) fun w X a h => ?_
  have H := H.ext X
  refine st1 h rfl rfl rfl (v_assign rfl) fun a h => ?_
  refine c_nil hK ?_
  have h := h.only [0, 6, 7] (l' := [_, _, _]) rfl
  refine c_region fun K hK => ?_
  refine st1 h rfl rfl rfl (v_move rfl) fun a h => ?_
  obtain ⟨z17_8, ez17_8, hS⟩ := bv hS
  refine st1 h rfl rfl rfl (vB ez17_8 (v_eq rfl rfl)) fun a h => ?_
  refine st1 h rfl rfl rfl (v_move rfl) fun a h => ?_
  obtain ⟨z19_9, ez19_9, hS⟩ := bv hS
  refine st1 h rfl rfl rfl (vB ez19_9 (v_ne rfl rfl)) fun a h => ?_
  refine st1 h rfl rfl rfl (v_move rfl) fun a h => ?_
  obtain ⟨z21_10, ez21_10, hS⟩ := bv hS
  refine st1 h rfl rfl rfl (vB ez21_10 (v_lt rfl rfl)) fun a h => ?_
  refine st1 h rfl rfl rfl (v_move rfl) fun a h => ?_
  obtain ⟨z23_11, ez23_11, hS⟩ := bv hS
  refine st1 h rfl rfl rfl (vB ez23_11 (v_le rfl rfl)) fun a h => ?_
  refine st1 h rfl rfl rfl (v_move rfl) fun a h => ?_
  obtain ⟨z25_12, ez25_12, hS⟩ := bv hS
  refine st1 h rfl rfl rfl (vB ez25_12 (v_gt rfl rfl)) fun a h => ?_
  refine st1 h rfl rfl rfl (v_move rfl) fun a h => ?_
  obtain ⟨z27_13, ez27_13, hS⟩ := bv hS
  refine st1 h rfl rfl rfl (vB ez27_13 (v_ge rfl rfl)) fun a h => ?_
  refine st1 h rfl rfl rfl (v_build bld78 [_, _, _, _, _, _] [_, _, _, _, _, _] rfl rfl) fun a h => ?_
  refine st1 h rfl rfl rfl (v_move rfl) fun a h => ?_
  obtain ⟨z30_14, ez30_14, hS⟩ := bv hS
  refine st1 h rfl rfl rfl (vI ez30_14 (v_subw rfl rfl)) fun a h => ?_
  obtain ⟨c15, hS⟩ := ck hS
  obtain ⟨z31_16, ez31_16, hS⟩ := bv hS
  refine st1 h rfl rfl rfl (vB ez31_16 (v_idxArrB [z17_8, z19_9, z21_10, z23_11, z25_12, z27_13] Tryz.underlying78 Tryz.sizeOf4 Tryz.isAgg4 rfl rfl rfl c15)) fun a h => ?_
  obtain ⟨y32_17, hy32_17, hS⟩ := bo hS
  refine st2v (T := Ext) (V := .agg #[.int .i64 y32_17.k, .int .i64 y32_17.n, S y32_17.s]) h rfl rfl rfl (d_call [_] rfl Tryz.call24 (value_Bool_ok (x0 := z31_16) hy32_17)) fun w X a h => ?_
  have H := H.ext X
  refine z_store h H 2 rfl rfl rfl Tryz.sizeOf25 [_, _, _] rfl rfl rfl (by simp) [_, _, _] rfl (hl' := [_, _, _]) rfl fun w H => ?_
  refine c_nil hK ?_
  have h := h.only [6] (l' := [_]) rfl
  obtain rfl := so hS
  refine c_ret (hret4 _ _ (out1 h rfl ⟨_, rfl, run_loadVar_agg (vs := [_, _, _]) Tryz.isAgg25 Tryz.sizeOf25 (H.hp.get 2 rfl) rfl rfl⟩ ?_))
  exact ⟨rfl, H.out⟩
 ·
  have hS := ifF ec6 hS
  refine c_region fun K hK => ?_
  refine st1 h rfl rfl rfl (v_move rfl) fun a h => ?_
  obtain ⟨z35_18, ez35_18, hS⟩ := bv hS
  refine st1 h rfl rfl rfl (vB ez35_18 (v_eq rfl rfl)) fun a h => ?_
  refine st1 h rfl rfl rfl (v_assign rfl) fun a h => ?_
  refine c_nil hK ?_
  refine c_cond h rfl (fun ec19 => ?_) (fun ec19 => ?_)
  ·
   have hS := ifT ec19 hS
   refine c_flowT 6 h (by kernel_rfl) (by kernel_rfl) fun K hK => ?_
   refine f1 [4] rfl rfl rfl rfl (fun w X => have H := H.ext X; v_loadA [_, _, _] rfl Tryz.isAgg25 Tryz.sizeOf25 (H.hp.get 0 rfl) rfl rfl) ?_
   obtain ⟨y37_20, hy37_20, hS⟩ := bo hS
   refine f2 (V := S y37_20) [36] rfl rfl rfl rfl (fun w X => have H := H.ext X; d_call [_] rfl Tryz.call18 (value_Show_ok (x0 := x1) hy37_20 (hG.ext H.out))) ?_
   refine f1 [5] rfl rfl rfl rfl (fun w X => have H := H.ext X; v_loadA [_, _, _] rfl Tryz.isAgg25 Tryz.sizeOf25 (H.hp.get 1 rfl) rfl rfl) ?_
   obtain ⟨y39_21, hy39_21, hS⟩ := bo hS
   refine f2 (V := S y39_21) [38] rfl rfl rfl rfl (fun w X => have H := H.ext X; d_call [_] rfl Tryz.call18 (value_Show_ok (x0 := x2) hy39_21 (hG.ext H.out))) ?_
   obtain ⟨c22, hS⟩ := ck hS
   obtain ⟨z40_23, ez40_23, hS⟩ := bv hS
   refine f1 [37, 39] rfl rfl rfl rfl (fun w X => vS ez40_23 (v_sadd rfl rfl c22)) ?_
   obtain ⟨y41_24, hy41_24, hS⟩ := bo hS
   refine f2 (V := .agg #[.int .i64 y41_24.k, .int .i64 y41_24.n, S y41_24.s]) [40] rfl rfl rfl rfl (fun w X => d_call [_] rfl Tryz.call25 (value_Text_ok (x0 := z40_23) hy41_24)) ?_
   refine fn_ ?_
   intro a w X hR hA
   have h := hR.out [6, 41]
   have h : Fr 97 [(41, _), (6, _)] a := h
   have H := H.ext X
   refine z_store h H 2 rfl rfl rfl Tryz.sizeOf25 [_, _, _] rfl rfl rfl (by simp) [_, _, _] rfl (hl' := [_, _, _]) rfl fun w H => ?_
   refine c_nil hK ?_
   obtain rfl := so hS
   refine c_ret (hret4 _ _ (out1 h rfl ⟨_, rfl, run_loadVar_agg (vs := [_, _, _]) Tryz.isAgg25 Tryz.sizeOf25 (H.hp.get 2 rfl) rfl rfl⟩ ?_))
   exact ⟨rfl, H.out⟩
  ·
   have hS := ifF ec19 hS
   refine c_skip ?_
   refine hN4 _ _ ?_
   have h := h.only [0, 4, 5, 6] (l' := [_, _, _, _]) rfl
   refine c_flowT 6 h (by kernel_rfl) (by kernel_rfl) fun K hK => ?_
   refine f1 [4] rfl rfl rfl rfl (fun w X => have H := H.ext X; v_loadA [_, _, _] rfl Tryz.isAgg25 Tryz.sizeOf25 (H.hp.get 0 rfl) rfl rfl) ?_
   obtain ⟨y43_25, hy43_25, hS⟩ := bo hS
   refine f2 (V := .agg #[.int .i64 y43_25.k, .int .i64 y43_25.n, S y43_25.s]) [42] rfl rfl rfl rfl (fun w X => d_call [_] rfl Tryz.call14 (value_ToNum_ok (x0 := x1) hy43_25)) ?_
   refine f1 [5] rfl rfl rfl rfl (fun w X => have H := H.ext X; v_loadA [_, _, _] rfl Tryz.isAgg25 Tryz.sizeOf25 (H.hp.get 1 rfl) rfl rfl) ?_
   obtain ⟨y45_26, hy45_26, hS⟩ := bo hS
   refine f2 (V := .agg #[.int .i64 y45_26.k, .int .i64 y45_26.n, S y45_26.s]) [44] rfl rfl rfl rfl (fun w X => d_call [_] rfl Tryz.call14 (value_ToNum_ok (x0 := x2) hy45_26)) ?_
   refine f_alloc Tryz.zeroValue25 [_, _, _] rfl rfl ?_
   refine f_alloc Tryz.zeroValue25 [_, _, _] rfl rfl ?_
   refine fn_ ?_
   intro a w X hR hA
   obtain ⟨_, ⟨p8_27, rfl, hb8⟩, _, ⟨p9_28, rfl, hb9⟩, h⟩ := hR.out [0, 6, 8, 9, 43, 45]
   have h : Fr 97 [(45, _), (43, _), (9, _), (8, _), (6, _), (0, _)] a := h
   have lo8 := hA.lo' h (s := 8) rfl rfl
   have lo9 := hA.lo' h (s := 9) rfl rfl
   have ne_ := hA.ne' h (s := 8) (t := 9) rfl rfl rfl rfl rfl
   have H := H.pushF2 X hb8 lo8 hb9 lo9 ne_
   have H : HZ w0 _ _ [_, _, _, _, _] _ := H
   refine z_store h H 3 rfl rfl rfl Tryz.sizeOf25 [_, _, _] rfl rfl rfl (by simp) [_, _, _] rfl (hl' := [_, _, _, _, _]) rfl fun w H => ?_
   refine z_store h H 4 rfl rfl rfl Tryz.sizeOf25 [_, _, _] rfl rfl rfl (by simp) [_, _, _] rfl (hl' := [_, _, _, _, _]) rfl fun w H => ?_
   refine c_nil hK ?_
   refine c_seq _ (fun a w c => c) fun Q29 hN29 hO29 => ?_
   have hret29 := hO29.ret hret0
   refine c_region fun K hK => ?_
   refine st1 h rfl rfl rfl (v_fieldAddr rfl Tryz.underlying25 rfl Tryz.sizeOf3 rfl rfl) fun a h => ?_
   refine st1 h rfl rfl rfl (v_load1 rfl Tryz.isAgg3 (H.hp.get 3 rfl) rfl) fun a h => ?_
   obtain ⟨z48_30, ez48_30, hS⟩ := bv hS
   refine st1 h rfl rfl rfl (vB ez48_30 (v_eq rfl rfl)) fun a h => ?_
   refine c_nil hK ?_
   have h := h.only [0, 6, 8, 9, 48] (l' := [_, _, _, _, _]) rfl
   refine c_cond h rfl (fun ec31 => ?_) (fun ec31 => ?_)
   ·
    have hS := ifT ec31 hS
    refine c_region fun K hK => ?_
    refine st1 h rfl rfl rfl (v_loadA [_, _, _] rfl Tryz.isAgg25 Tryz.sizeOf25 (H.hp.get 3 rfl) rfl rfl) fun a h => ?_
    refine z_store h H 2 rfl rfl rfl Tryz.sizeOf25 [_, _, _] rfl rfl rfl (by simp) [_, _, _] rfl (hl' := [_, _, _, _, _]) rfl fun w H => ?_
    refine c_nil hK ?_
    have h := h.only [6] (l' := [_]) rfl
    obtain rfl := so hS
    refine c_ret (hret29 _ _ (out1 h rfl ⟨_, rfl, run_loadVar_agg (vs := [_, _, _]) Tryz.isAgg25 Tryz.sizeOf25 (H.hp.get 2 rfl) rfl rfl⟩ ?_))
    exact ⟨rfl, H.out⟩
   ·
    have hS := ifF ec31 hS
    refine c_skip ?_
    refine hN29 _ _ ?_
    refine c_seq _ (fun a w c => c) fun Q32 hN32 hO32 => ?_
    have hret32 := hO32.ret hret0
    refine c_region fun K hK => ?_
    refine st1 h rfl rfl rfl (v_fieldAddr rfl Tryz.underlying25 rfl Tryz.sizeOf3 rfl rfl) fun a h => ?_
    refine st1 h rfl rfl rfl (v_load1 rfl Tryz.isAgg3 (H.hp.get 4 rfl) rfl) fun a h => ?_
    obtain ⟨z52_33, ez52_33, hS⟩ := bv hS
    refine st1 h rfl rfl rfl (vB ez52_33 (v_eq rfl rfl)) fun a h => ?_
    refine c_nil hK ?_
    refine c_cond h rfl (fun ec34 => ?_) (fun ec34 => ?_)
    ·
     have hS := ifT ec34 hS
     refine c_region fun K hK => ?_
     refine st1 h rfl rfl rfl (v_loadA [_, _, _] rfl Tryz.isAgg25 Tryz.sizeOf25 (H.hp.get 4 rfl) rfl rfl) fun a h => ?_
     refine z_store h H 2 rfl rfl rfl Tryz.sizeOf25 [_, _, _] rfl rfl rfl (by simp) [_, _, _] rfl (hl' := [_, _, _, _, _]) rfl fun w H => ?_
     refine c_nil hK ?_
     have h := h.only [6] (l' := [_]) rfl
     obtain rfl := so hS
     refine c_ret (hret32 _ _ (out1 h rfl ⟨_, rfl, run_loadVar_agg (vs := [_, _, _]) Tryz.isAgg25 Tryz.sizeOf25 (H.hp.get 2 rfl) rfl rfl⟩ ?_))
     exact ⟨rfl, H.out⟩
    ·
     have hS := ifF ec34 hS
     refine c_skip ?_
     refine hN32 _ _ ?_
     have h := h.only [0, 6, 8, 9] (l' := [_, _, _, _]) rfl
     refine c_seq _ (fun a w c => c) fun Q35 hN35 hO35 => ?_
     have hret35 := hO35.ret hret0
     refine c_region fun K hK => ?_
     refine st1 h rfl rfl rfl (v_move rfl) fun a h => ?_
     refine c_nil hK ?_
     refine c_lblock fun Q36 hN36 hx1_36 hO36 => ?_
     have hret36 := hO36.ret hret35
     refine c_region fun K hK => ?_
     obtain ⟨z56_37, ez56_37, hS⟩ := bv hS
     refine st1 h rfl rfl rfl (vB ez56_37 (v_eq rfl rfl)) fun a h => ?_
     refine st1 h rfl rfl rfl (v_assign rfl) fun a h => ?_
     refine c_nil hK ?_
     refine c_cond h rfl (fun ec38 => ?_) (fun ec38 => ?_)
     ·
      have hS := ifT ec38 hS
      refine c_region fun K hK => ?_
      refine st1 h rfl rfl rfl (v_fieldAddr rfl Tryz.underlying25 rfl Tryz.sizeOf2 rfl rfl) fun a h => ?_
      refine st1 h rfl rfl rfl (v_load1 rfl Tryz.isAgg2 (H.hp.get 3 rfl) rfl) fun a h => ?_
      refine st1 h rfl rfl rfl (v_fieldAddr rfl Tryz.underlying25 rfl Tryz.sizeOf2 rfl rfl) fun a h => ?_
      refine st1 h rfl rfl rfl (v_load1 rfl Tryz.isAgg2 (H.hp.get 4 rfl) rfl) fun a h => ?_
      obtain ⟨y61_39, hy61_39, hS⟩ := bo hS
      refine st2v (T := Ext) (V := .tuple #[.int .i64 y61_39.1, .bool y61_39.2]) h rfl rfl rfl (d_call [_, _] rfl Tryz.call53 (num_Add_ok (x0 := y43_25.n) (x1 := y45_26.n) hy61_39)) fun w X a h => ?_
      have H := H.ext X
      refine st1 h rfl rfl rfl (v_extract rfl rfl) fun a h => ?_
      refine st1 h rfl rfl rfl (v_extract rfl rfl) fun a h => ?_
      obtain ⟨y64_40, hy64_40, hS⟩ := bo hS
      refine st2v (T := Ext) (V := .agg #[.int .i64 y64_40.k, .int .i64 y64_40.n, S y64_40.s]) h rfl rfl rfl (d_call [_, _] rfl Tryz.call35 (value_Made_ok (x0 := y61_39.1) (x1 := y61_39.2) hy64_40)) fun w X a h => ?_
      have H := H.ext X
      refine z_store h H 2 rfl rfl rfl Tryz.sizeOf25 [_, _, _] rfl rfl rfl (by simp) [_, _, _] rfl (hl' := [_, _, _, _, _]) rfl fun w H => ?_
      refine c_nil hK ?_
      have h := h.only [6] (l' := [_]) rfl
      obtain rfl := so hS
      refine c_ret (hret36 _ _ (out1 h rfl ⟨_, rfl, run_loadVar_agg (vs := [_, _, _]) Tryz.isAgg25 Tryz.sizeOf25 (H.hp.get 2 rfl) rfl rfl⟩ ?_))
      exact ⟨rfl, H.out⟩
     ·
      have hS := ifF ec38 hS
      refine c_region fun K hK => ?_
      obtain ⟨z66_41, ez66_41, hS⟩ := bv hS
      refine st1 h rfl rfl rfl (vB ez66_41 (v_eq rfl rfl)) fun a h => ?_
      refine st1 h rfl rfl rfl (v_assign rfl) fun a h => ?_
      refine c_nil hK ?_
      have h := h.only [6, 8, 9, 54, 65] (l' := [_, _, _, _, _]) rfl
      refine c_cond h rfl (fun ec42 => ?_) (fun ec42 => ?_)
      ·
       have hS := ifT ec42 hS
       refine c_region fun K hK => ?_
       refine st1 h rfl rfl rfl (v_fieldAddr rfl Tryz.underlying25 rfl Tryz.sizeOf2 rfl rfl) fun a h => ?_
       refine st1 h rfl rfl rfl (v_load1 rfl Tryz.isAgg2 (H.hp.get 3 rfl) rfl) fun a h => ?_
       refine st1 h rfl rfl rfl (v_fieldAddr rfl Tryz.underlying25 rfl Tryz.sizeOf2 rfl rfl) fun a h => ?_
       refine st1 h rfl rfl rfl (v_load1 rfl Tryz.isAgg2 (H.hp.get 4 rfl) rfl) fun a h => ?_
       obtain ⟨y71_43, hy71_43, hS⟩ := bo hS
       refine st2v (T := Ext) (V := .tuple #[.int .i64 y71_43.1, .bool y71_43.2]) h rfl rfl rfl (d_call [_, _] rfl Tryz.call54 (num_Sub_ok (x0 := y43_25.n) (x1 := y45_26.n) hy71_43)) fun w X a h => ?_
       have H := H.ext X
       refine st1 h rfl rfl rfl (v_extract rfl rfl) fun a h => ?_
       refine st1 h rfl rfl rfl (v_extract rfl rfl) fun a h => ?_
       obtain ⟨y74_44, hy74_44, hS⟩ := bo hS
       refine st2v (T := Ext) (V := .agg #[.int .i64 y74_44.k, .int .i64 y74_44.n, S y74_44.s]) h rfl rfl rfl (d_call [_, _] rfl Tryz.call35 (value_Made_ok (x0 := y71_43.1) (x1 := y71_43.2) hy74_44)) fun w X a h => ?_
       have H := H.ext X
       refine z_store h H 2 rfl rfl rfl Tryz.sizeOf25 [_, _, _] rfl rfl rfl (by simp) [_, _, _] rfl (hl' := [_, _, _, _, _]) rfl fun w H => ?_
       refine c_nil hK ?_
       have h := h.only [6] (l' := [_]) rfl
       obtain rfl := so hS
       refine c_ret (hret36 _ _ (out1 h rfl ⟨_, rfl, run_loadVar_agg (vs := [_, _, _]) Tryz.isAgg25 Tryz.sizeOf25 (H.hp.get 2 rfl) rfl rfl⟩ ?_))
       exact ⟨rfl, H.out⟩
      ·
       have hS := ifF ec42 hS
       refine c_region fun K hK => ?_
       obtain ⟨z76_45, ez76_45, hS⟩ := bv hS
       refine st1 h rfl rfl rfl (vB ez76_45 (v_eq rfl rfl)) fun a h => ?_
       refine st1 h rfl rfl rfl (v_assign rfl) fun a h => ?_
       refine c_nil hK ?_
       refine c_cond h rfl (fun ec46 => ?_) (fun ec46 => ?_)
       ·
        have hS := ifT ec46 hS
        refine c_region fun K hK => ?_
        refine st1 h rfl rfl rfl (v_fieldAddr rfl Tryz.underlying25 rfl Tryz.sizeOf2 rfl rfl) fun a h => ?_
        refine st1 h rfl rfl rfl (v_load1 rfl Tryz.isAgg2 (H.hp.get 3 rfl) rfl) fun a h => ?_
        refine st1 h rfl rfl rfl (v_fieldAddr rfl Tryz.underlying25 rfl Tryz.sizeOf2 rfl rfl) fun a h => ?_
        refine st1 h rfl rfl rfl (v_load1 rfl Tryz.isAgg2 (H.hp.get 4 rfl) rfl) fun a h => ?_
        obtain ⟨y81_47, hy81_47, hS⟩ := bo hS
        refine st2v (T := Ext) (V := .tuple #[.int .i64 y81_47.1, .bool y81_47.2]) h rfl rfl rfl (d_call [_, _] rfl Tryz.call55 (num_Mul_ok (x0 := y43_25.n) (x1 := y45_26.n) hy81_47)) fun w X a h => ?_
        have H := H.ext X
        refine st1 h rfl rfl rfl (v_extract rfl rfl) fun a h => ?_
        refine st1 h rfl rfl rfl (v_extract rfl rfl) fun a h => ?_
        obtain ⟨y84_48, hy84_48, hS⟩ := bo hS
        refine st2v (T := Ext) (V := .agg #[.int .i64 y84_48.k, .int .i64 y84_48.n, S y84_48.s]) h rfl rfl rfl (d_call [_, _] rfl Tryz.call35 (value_Made_ok (x0 := y81_47.1) (x1 := y81_47.2) hy84_48)) fun w X a h => ?_
        have H := H.ext X
        refine z_store h H 2 rfl rfl rfl Tryz.sizeOf25 [_, _, _] rfl rfl rfl (by simp) [_, _, _] rfl (hl' := [_, _, _, _, _]) rfl fun w H => ?_
        refine c_nil hK ?_
        have h := h.only [6] (l' := [_]) rfl
        obtain rfl := so hS
        refine c_ret (hret36 _ _ (out1 h rfl ⟨_, rfl, run_loadVar_agg (vs := [_, _, _]) Tryz.isAgg25 Tryz.sizeOf25 (H.hp.get 2 rfl) rfl rfl⟩ ?_))
        exact ⟨rfl, H.out⟩
       ·
        have hS := ifF ec46 hS
        refine c_skip ?_
        refine hN36 _ _ ?_
        refine hN35 _ _ ?_
        have h := h.only [6, 8, 9] (l' := [_, _, _]) rfl
        refine c_seq _ (fun a w c => c) fun Q49 hN49 hO49 => ?_
        have hret49 := hO49.ret hret0
        refine c_region fun K hK => ?_
        refine st1 h rfl rfl rfl (v_fieldAddr rfl Tryz.underlying25 rfl Tryz.sizeOf2 rfl rfl) fun a h => ?_
        refine st1 h rfl rfl rfl (v_load1 rfl Tryz.isAgg2 (H.hp.get 4 rfl) rfl) fun a h => ?_
        obtain ⟨z87_50, ez87_50, hS⟩ := bv hS
        refine st1 h rfl rfl rfl (vB ez87_50 (v_eq rfl rfl)) fun a h => ?_
        refine c_nil hK ?_
        refine c_cond h rfl (fun ec51 => ?_) (fun ec51 => ?_)
        ·
         have hS := ifT ec51 hS
         refine c_region fun K hK => ?_
         obtain ⟨y88_52, hy88_52, hS⟩ := bo hS
         refine st2v (T := Ext) (V := .agg #[.int .i64 y88_52.k, .int .i64 y88_52.n, S y88_52.s]) h rfl rfl rfl (d_call [_] rfl Tryz.call13 (value_Fail_ok (x0 := (1 : Int)) hy88_52)) fun w X a h => ?_
         have H := H.ext X
         refine z_store h H 2 rfl rfl rfl Tryz.sizeOf25 [_, _, _] rfl rfl rfl (by simp) [_, _, _] rfl (hl' := [_, _, _, _, _]) rfl fun w H => ?_
         refine c_nil hK ?_
         have h := h.only [6] (l' := [_]) rfl
         obtain rfl := so hS
         refine c_ret (hret49 _ _ (out1 h rfl ⟨_, rfl, run_loadVar_agg (vs := [_, _, _]) Tryz.isAgg25 Tryz.sizeOf25 (H.hp.get 2 rfl) rfl rfl⟩ ?_))
         exact ⟨rfl, H.out⟩
        ·
         have hS := ifF ec51 hS
         refine c_skip ?_
         refine hN49 _ _ ?_
         refine c_region fun K hK => ?_
         refine st1 h rfl rfl rfl (v_fieldAddr rfl Tryz.underlying25 rfl Tryz.sizeOf2 rfl rfl) fun a h => ?_
         refine st1 h rfl rfl rfl (v_load1 rfl Tryz.isAgg2 (H.hp.get 3 rfl) rfl) fun a h => ?_
         refine st1 h rfl rfl rfl (v_fieldAddr rfl Tryz.underlying25 rfl Tryz.sizeOf2 rfl rfl) fun a h => ?_
         refine st1 h rfl rfl rfl (v_load1 rfl Tryz.isAgg2 (H.hp.get 4 rfl) rfl) fun a h => ?_
         obtain ⟨y93_53, hy93_53, hS⟩ := bo hS
         refine st2v (T := Ext) (V := .tuple #[.int .i64 y93_53.1, .bool y93_53.2]) h rfl rfl rfl (d_call [_, _] rfl Tryz.call56 (num_Quo_ok (x0 := y43_25.n) (x1 := y45_26.n) hy93_53)) fun w X a h => ?_
         have H := H.ext X
         refine st1 h rfl rfl rfl (v_extract rfl rfl) fun a h => ?_
         refine st1 h rfl rfl rfl (v_extract rfl rfl) fun a h => ?_
         obtain ⟨y96_54, hy96_54, hS⟩ := bo hS
         refine st2v (T := Ext) (V := .agg #[.int .i64 y96_54.k, .int .i64 y96_54.n, S y96_54.s]) h rfl rfl rfl (d_call [_, _] rfl Tryz.call35 (value_Made_ok (x0 := y93_53.1) (x1 := y93_53.2) hy96_54)) fun w X a h => ?_
         have H := H.ext X
         refine z_store h H 2 rfl rfl rfl Tryz.sizeOf25 [_, _, _] rfl rfl rfl (by simp) [_, _, _] rfl (hl' := [_, _, _, _, _]) rfl fun w H => ?_
         refine c_nil hK ?_
         have h := h.only [6] (l' := [_]) rfl
         obtain rfl := so hS
         refine c_ret (hret0 _ _ (out1 h rfl ⟨_, rfl, run_loadVar_agg (vs := [_, _, _]) Tryz.isAgg25 Tryz.sizeOf25 (H.hp.get 2 rfl) rfl rfl⟩ ?_))
         exact ⟨rfl, H.out⟩

theorem reckonerlaw12_fit_ok  {res : Bool} {w0 : World} (hS : reckonerlaw12_fit  = some res) (hG : GW w0) : Calls Tryz.prog 7 [].toArray w0 (Ret fun v w => v = .bool res ∧ Ext w0 w) := by
 refine enter Tryz.func7 rfl rfl rfl fun Q a h hret0 hnor => ?_
 obtain ⟨Zi, Z, H⟩ : ∃ Zi Z, HZ w0 Zi Z [] w0 := ⟨_, _, HZ.start w0⟩
 have h := h.only [] (l' := []) rfl
 unfold reckonerlaw12_fit at hS
 refine c_region fun K hK => ?_
 refine st1 h rfl rfl rfl (v_assign rfl) fun a h => ?_
 refine c_nil hK ?_
 refine c_region fun K hK => ?_
 obtain ⟨y1_1, hy1_1, hS⟩ := bo hS
 refine st2v (T := Ext) (V := .agg #[.int .i64 y1_1.k, .int .i64 y1_1.n, S y1_1.s]) h rfl rfl rfl (d_call [_] rfl Tryz.call22 (value_Num_ok (x0 := (1000000 : Int)) hy1_1)) fun w X a h => ?_
 have H := H.ext X
 obtain ⟨y2_2, hy2_2, hS⟩ := bo hS
 refine st2v (T := Ext) (V := .agg #[.int .i64 y2_2.k, .int .i64 y2_2.n, S y2_2.s]) h rfl rfl rfl (d_call [_] rfl Tryz.call24 (value_Bool_ok (x0 := true) hy2_2)) fun w X a h => ?_
 have H := H.ext X
 obtain ⟨y3_3, hy3_3, hS⟩ := bo hS
 refine st2v (T := Ext) (V := .agg #[.int .i64 y3_3.k, .int .i64 y3_3.n, S y3_3.s]) h rfl rfl rfl (d_call [_, _, _] rfl Tryz.call23 (funcs_Binary_ok (x0 := (5 : Int)) (x1 := y1_1) (x2 := y2_2) hy3_3 (hG.ext H.out))) fun w X a h => ?_
 have H := H.ext X
 obtain ⟨y4_4, hy4_4, hS⟩ := bo hS
 refine st2v (T := Ext) (V := .agg #[.int .i64 y4_4.k, .int .i64 y4_4.n, S y4_4.s]) h rfl rfl rfl (d_call [_] rfl Tryz.call25 (value_Text_ok (x0 := ([49, 84, 82, 85, 69] : List UInt8)) hy4_4)) fun w X a h => ?_
 have H := H.ext X
 obtain ⟨z5_5, ez5_5, hS⟩ := bv hS
 refine st1 h rfl rfl rfl (vB ez5_5 (v_aggeq rfl rfl age25 (agq25 _ _ _ _ _ _))) fun a h => ?_
 refine st1 h rfl rfl rfl (v_move rfl) fun a h => ?_
 obtain ⟨y7_6, hy7_6, hS⟩ := bo hS
 refine st_gd (T := Ext) (V := S y7_6) h rfl rfl (gT rfl) rfl rfl (Ext.refl _) (fun e0 => d_call [_] rfl Tryz.call26 (num_Print_ok (x0 := (0 : Int)) (ifT e0 hy7_6))) fun w X a h => ?_
 have H := H.ext X
 obtain ⟨z8_7, ez8_7, hS⟩ := bv hS
 refine st_g h rfl rfl (gT rfl) rfl rfl (fun e0 => vB ez8_7 (v_seq (eg e0 rfl) rfl)) fun a h => ?_
 obtain ⟨z9_8, ez9_8, hS⟩ := bv hS
 refine st1 h rfl rfl rfl (vB ez9_8 (v_and rfl rfl)) fun a h => ?_
 refine st1 h rfl rfl rfl (v_assign rfl) fun a h => ?_
 refine c_nil hK ?_
 have h := h.only [0] (l' := [_]) rfl
 obtain rfl := so hS
 refine c_ret (hret0 _ _ (out1 h rfl rfl ?_))
 exact ⟨rfl, H.out⟩
end Go.Proofs.YtnmkeanoidadcaaGreatDoor
