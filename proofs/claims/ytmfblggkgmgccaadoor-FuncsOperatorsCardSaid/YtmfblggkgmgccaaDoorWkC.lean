/- Walks: the code computes what the partial functions say. -/
import Derived.Test.YtmfblggkgmgccaaDoorSpC
import Derived.Test.YtmfblggkgmgccaaDoorWkB
set_option linter.unusedSimpArgs false
set_option linter.unusedVariables false
set_option linter.unusedSectionVars false
namespace Go.Proofs.YtmfblggkgmgccaaDoor
open Go.Stp Go.RowKit Go.ValP Go.Sp
set_option maxRecDepth 100000
theorem bits_Div64_ok {x0 : Int} {x1 : Int} {x2 : Int} {res : Int × Int} {w0 : World} (hS : bits_Div64 x0 x1 x2 = some res) : Calls Tryd.prog 39 [.int .u64 x0, .int .u64 x1, .int .u64 x2].toArray w0 (Ret fun v w => v = .tuple #[.int .u64 res.1, .int .u64 res.2] ∧ Ext w0 w) := by
  refine enter Tryd.func39 rfl rfl rfl fun Q a h hret0 hnor => ?_
  obtain ⟨Zi, Z, H⟩ : ∃ Zi Z, HZ w0 Zi Z [] w0 := ⟨_, _, HZ.start w0⟩
  have h := h.only [0, 1, 2] (l' := [(0, _), (1, _), (2, _)]) rfl
  unfold bits_Div64 at hS
  refine c_region fun K hK => ?_
  refine st1 h rfl rfl rfl (v_assign rfl) fun a h => ?_
  refine st1 h rfl rfl rfl (v_assign rfl) fun a h => ?_
  refine c_nil hK ?_
  obtain ⟨J2, eJ2, hS⟩ := bv hS
  refine c_seq (fun a w => ∃ (Z : FZ) (s2 : Unit), J2 s2 = some res ∧ Fr 135 [(0, .int .u64 x0), (1, .int .u64 x1), (2, .int .u64 x2)] a ∧ HZ w0 Zi Z [] w) ?_ fun Q1 hN1 hO1 => ?_
  · rintro a w ⟨Z, s2, hS, h, H⟩
    subst eJ2
    obtain ⟨J4, eJ4, hS⟩ := bv hS
    refine c_seq (fun a w => ∃ (Z : FZ) (s4 : Unit), J4 s4 = some res ∧ Fr 135 [(0, .int .u64 x0), (1, .int .u64 x1), (2, .int .u64 x2)] a ∧ HZ w0 Zi Z [] w) ?_ fun Q3 hN3 hO3 => ?_
    · rintro a w ⟨Z, s4, hS, h, H⟩
      subst eJ4
      refine c_seq _ (fun a w c => c) fun Q5 hN5 hO5 => ?_
      have hret5 := hO5.ret hret0
      refine c_region fun K hK => ?_
      refine st1 h rfl rfl rfl (v_move rfl) fun a h => ?_
      obtain ⟨z27_6, ez27_6, hS⟩ := bv hS
      refine st1 h rfl rfl rfl (vB ez27_6 (v_eq rfl rfl)) fun a h => ?_
      refine c_nil hK ?_
      refine c_cond h rfl (fun ec7 => ?_) (fun ec7 => ?_)
      · have hS := ifT ec7 hS
        refine c_flow h (by kernel_rfl) (by kernel_rfl) ?_
        refine f1 [1] rfl rfl rfl rfl (fun w X => v_move rfl) ?_
        refine f1 [2] rfl rfl rfl rfl (fun w X => v_move rfl) ?_
        obtain ⟨c8, hS⟩ := ck hS
        obtain ⟨z30_9, ez30_9, hS⟩ := bv hS
        refine f1 [28, 29] rfl rfl rfl rfl (fun w X => vI ez30_9 (v_quow rfl rfl c8)) ?_
        refine f1 [1] rfl rfl rfl rfl (fun w X => v_move rfl) ?_
        refine f1 [2] rfl rfl rfl rfl (fun w X => v_move rfl) ?_
        obtain ⟨c10, hS⟩ := ck hS
        obtain ⟨z33_11, ez33_11, hS⟩ := bv hS
        refine f1 [31, 32] rfl rfl rfl rfl (fun w X => vI ez33_11 (v_rem rfl rfl c10)) ?_
        refine f1 [30] rfl rfl rfl rfl (fun w X => v_assign rfl) ?_
        refine f1 [33] rfl rfl rfl rfl (fun w X => v_assign rfl) ?_
        refine fn_ ?_
        intro a w X hR hA
        have h := hR.out [6, 7]
        have h : Fr 135 [(7, _), (6, _)] a := h
        have H := H.ext X
        obtain rfl := so hS
        refine c_ret (hret5 _ _ (out2 h rfl rfl rfl ?_))
        exact ⟨rfl, H.out⟩
      · have hS := ifF ec7 hS
        refine c_skip ?_
        refine hN5 _ _ ?_
        refine c_region fun K hK => ?_
        refine st1 h rfl rfl rfl (v_move rfl) fun a h => ?_
        obtain ⟨c13, hS⟩ := ck hS
        obtain ⟨z35_14, ez35_14, hS⟩ := bv hS
        refine st2v (T := Ext) (V := .int .i64 z35_14) h rfl rfl rfl ((by rw [ez35_14]; exact d_call [_] rfl Tryd.call44 (lib_lz64 c13))) fun w X a h => ?_
        have H := H.ext X
        obtain ⟨z36_15, ez36_15, hS⟩ := bv hS
        refine st1 h rfl rfl rfl (vI ez36_15 (v_convInt (by rw [Tryd.underlying3]; rfl) Tryd.underlying66 rfl rfl)) fun a h => ?_
        refine st1 h rfl rfl rfl (v_assign rfl) fun a h => ?_
        refine c_nil hK ?_
        have h := h.only [0, 1, 2, 8] (l' := [(0, _), (1, _), (2, _), (8, _)]) rfl
        refine c_region fun K hK => ?_
        refine st1 h rfl rfl rfl (v_move rfl) fun a h => ?_
        refine st1 h rfl rfl rfl (v_move rfl) fun a h => ?_
        obtain ⟨c16, hS⟩ := ck hS
        obtain ⟨z39_17, ez39_17, hS⟩ := bv hS
        refine st1 h rfl rfl rfl (vI ez39_17 (v_shl rfl rfl c16)) fun a h => ?_
        refine st1 h rfl rfl rfl (v_assign rfl) fun a h => ?_
        refine c_nil hK ?_
        refine c_region fun K hK => ?_
        refine st1 h rfl rfl rfl (v_move rfl) fun a h => ?_
        obtain ⟨c18, hS⟩ := ck hS
        obtain ⟨z41_19, ez41_19, hS⟩ := bv hS
        refine st1 h rfl rfl rfl (vI ez41_19 (v_shr rfl rfl c18)) fun a h => ?_
        refine st1 h rfl rfl rfl (v_assign rfl) fun a h => ?_
        refine c_nil hK ?_
        have h := h.only [0, 1, 2, 8, 9] (l' := [(0, _), (1, _), (2, _), (8, _), (9, _)]) rfl
        refine c_region fun K hK => ?_
        refine st1 h rfl rfl rfl (v_move rfl) fun a h => ?_
        obtain ⟨z43_20, ez43_20, hS⟩ := bv hS
        refine st1 h rfl rfl rfl (vI ez43_20 (v_bits_and rfl rfl)) fun a h => ?_
        refine st1 h rfl rfl rfl (v_assign rfl) fun a h => ?_
        refine c_nil hK ?_
        refine c_region fun K hK => ?_
        refine st1 h rfl rfl rfl (v_move rfl) fun a h => ?_
        refine st1 h rfl rfl rfl (v_move rfl) fun a h => ?_
        obtain ⟨c21, hS⟩ := ck hS
        obtain ⟨z46_22, ez46_22, hS⟩ := bv hS
        refine st1 h rfl rfl rfl (vI ez46_22 (v_shl rfl rfl c21)) fun a h => ?_
        refine st1 h rfl rfl rfl (v_move rfl) fun a h => ?_
        refine st1 h rfl rfl rfl (v_move rfl) fun a h => ?_
        obtain ⟨z49_23, ez49_23, hS⟩ := bv hS
        refine st1 h rfl rfl rfl (vI ez49_23 (v_subw rfl rfl)) fun a h => ?_
        obtain ⟨c24, hS⟩ := ck hS
        obtain ⟨z50_25, ez50_25, hS⟩ := bv hS
        refine st1 h rfl rfl rfl (vI ez50_25 (v_shr rfl rfl c24)) fun a h => ?_
        obtain ⟨z51_26, ez51_26, hS⟩ := bv hS
        refine st1 h rfl rfl rfl (vI ez51_26 (v_bits_or rfl rfl)) fun a h => ?_
        refine st1 h rfl rfl rfl (v_assign rfl) fun a h => ?_
        refine c_nil hK ?_
        have h := h.only [1, 2, 8, 9, 10, 11] (l' := [(1, _), (2, _), (8, _), (9, _), (10, _), (11, _)]) rfl
        refine c_region fun K hK => ?_
        refine st1 h rfl rfl rfl (v_move rfl) fun a h => ?_
        refine st1 h rfl rfl rfl (v_move rfl) fun a h => ?_
        obtain ⟨c27, hS⟩ := ck hS
        obtain ⟨z54_28, ez54_28, hS⟩ := bv hS
        refine st1 h rfl rfl rfl (vI ez54_28 (v_shl rfl rfl c27)) fun a h => ?_
        refine st1 h rfl rfl rfl (v_assign rfl) fun a h => ?_
        refine c_nil hK ?_
        have h := h.only [2, 8, 9, 10, 11, 12] (l' := [(2, _), (8, _), (9, _), (10, _), (11, _), (12, _)]) rfl
        refine c_region fun K hK => ?_
        refine st1 h rfl rfl rfl (v_move rfl) fun a h => ?_
        obtain ⟨c29, hS⟩ := ck hS
        obtain ⟨z56_30, ez56_30, hS⟩ := bv hS
        refine st1 h rfl rfl rfl (vI ez56_30 (v_shr rfl rfl c29)) fun a h => ?_
        refine st1 h rfl rfl rfl (v_assign rfl) fun a h => ?_
        refine c_nil hK ?_
        refine c_region fun K hK => ?_
        refine st1 h rfl rfl rfl (v_move rfl) fun a h => ?_
        obtain ⟨z58_31, ez58_31, hS⟩ := bv hS
        refine st1 h rfl rfl rfl (vI ez58_31 (v_bits_and rfl rfl)) fun a h => ?_
        refine st1 h rfl rfl rfl (v_assign rfl) fun a h => ?_
        refine c_nil hK ?_
        have h := h.only [2, 8, 9, 10, 11, 13, 14] (l' := [(2, _), (8, _), (9, _), (10, _), (11, _), (13, _), (14, _)]) rfl
        refine c_region fun K hK => ?_
        refine st1 h rfl rfl rfl (v_move rfl) fun a h => ?_
        refine st1 h rfl rfl rfl (v_move rfl) fun a h => ?_
        obtain ⟨c32, hS⟩ := ck hS
        obtain ⟨z61_33, ez61_33, hS⟩ := bv hS
        refine st1 h rfl rfl rfl (vI ez61_33 (v_quow rfl rfl c32)) fun a h => ?_
        refine st1 h rfl rfl rfl (v_assign rfl) fun a h => ?_
        refine c_nil hK ?_
        refine c_region fun K hK => ?_
        refine st1 h rfl rfl rfl (v_move rfl) fun a h => ?_
        refine st1 h rfl rfl rfl (v_move rfl) fun a h => ?_
        refine st1 h rfl rfl rfl (v_move rfl) fun a h => ?_
        obtain ⟨z65_34, ez65_34, hS⟩ := bv hS
        refine st1 h rfl rfl rfl (vI ez65_34 (v_mulw rfl rfl)) fun a h => ?_
        obtain ⟨z66_35, ez66_35, hS⟩ := bv hS
        refine st1 h rfl rfl rfl (vI ez66_35 (v_subw rfl rfl)) fun a h => ?_
        refine st1 h rfl rfl rfl (v_assign rfl) fun a h => ?_
        refine c_nil hK ?_
        have h := h.only [2, 8, 9, 10, 11, 13, 14, 15, 16] (l' := [(2, _), (8, _), (9, _), (10, _), (11, _), (13, _), (14, _), (15, _), (16, _)]) rfl
        obtain ⟨J37, eJ37, hS⟩ := bv hS
        refine c_block (fun a w => ∃ (Z : FZ) (s37 : Int), J37 s37 = some res ∧ Fr 135 [(2, .int .u64 z39_17), (8, .int .u64 z36_15), (9, .int .u64 z41_19), (10, .int .u64 z43_20), (11, .int .u64 z51_26), (13, .int .u64 z56_30), (14, .int .u64 z58_31), (15, .int .u64 s37)] a ∧ HZ w0 Zi Z [] w) ?_ fun Q36 hN36 hx0_36 hO36 => ?_
        · rintro a w ⟨Z, s37, hS, h, H⟩
          subst eJ37
          refine c_region fun K hK => ?_
          refine st1 h rfl rfl rfl (v_move rfl) fun a h => ?_
          obtain ⟨z87_38, ez87_38, hS⟩ := bv hS
          refine st1 h rfl rfl rfl (vI ez87_38 (v_mulw rfl rfl)) fun a h => ?_
          refine st1 h rfl rfl rfl (v_move rfl) fun a h => ?_
          obtain ⟨z89_39, ez89_39, hS⟩ := bv hS
          refine st1 h rfl rfl rfl (vI ez89_39 (v_addw rfl rfl)) fun a h => ?_
          refine st1 h rfl rfl rfl (v_move rfl) fun a h => ?_
          refine st1 h rfl rfl rfl (v_move rfl) fun a h => ?_
          obtain ⟨z92_40, ez92_40, hS⟩ := bv hS
          refine st1 h rfl rfl rfl (vI ez92_40 (v_mulw rfl rfl)) fun a h => ?_
          obtain ⟨z93_41, ez93_41, hS⟩ := bv hS
          refine st1 h rfl rfl rfl (vI ez93_41 (v_subw rfl rfl)) fun a h => ?_
          refine st1 h rfl rfl rfl (v_assign rfl) fun a h => ?_
          refine c_nil hK ?_
          have h := h.only [2, 8, 9, 10, 14, 15, 17] (l' := [(2, _), (8, _), (9, _), (10, _), (14, _), (15, _), (17, _)]) rfl
          refine c_region fun K hK => ?_
          refine st1 h rfl rfl rfl (v_move rfl) fun a h => ?_
          refine st1 h rfl rfl rfl (v_move rfl) fun a h => ?_
          obtain ⟨c42, hS⟩ := ck hS
          obtain ⟨z96_43, ez96_43, hS⟩ := bv hS
          refine st1 h rfl rfl rfl (vI ez96_43 (v_quow rfl rfl c42)) fun a h => ?_
          refine st1 h rfl rfl rfl (v_assign rfl) fun a h => ?_
          refine c_nil hK ?_
          refine c_region fun K hK => ?_
          refine st1 h rfl rfl rfl (v_move rfl) fun a h => ?_
          refine st1 h rfl rfl rfl (v_move rfl) fun a h => ?_
          refine st1 h rfl rfl rfl (v_move rfl) fun a h => ?_
          obtain ⟨z100_44, ez100_44, hS⟩ := bv hS
          refine st1 h rfl rfl rfl (vI ez100_44 (v_mulw rfl rfl)) fun a h => ?_
          obtain ⟨z101_45, ez101_45, hS⟩ := bv hS
          refine st1 h rfl rfl rfl (vI ez101_45 (v_subw rfl rfl)) fun a h => ?_
          refine st1 h rfl rfl rfl (v_assign rfl) fun a h => ?_
          refine c_nil hK ?_
          have h := h.only [2, 8, 9, 10, 14, 15, 16, 17, 18] (l' := [(2, _), (8, _), (9, _), (10, _), (14, _), (15, _), (16, _), (17, _), (18, _)]) rfl
          obtain ⟨J47, eJ47, hS⟩ := bv hS
          refine c_block (fun a w => ∃ (Z : FZ) (s47 : Int), J47 s47 = some res ∧ Fr 135 [(2, .int .u64 z39_17), (8, .int .u64 z36_15), (14, .int .u64 z58_31), (15, .int .u64 s37), (17, .int .u64 z93_41), (18, .int .u64 s47)] a ∧ HZ w0 Zi Z [] w) ?_ fun Q46 hN46 hx2_46 hO46 => ?_
          · rintro a w ⟨Z, s47, hS, h, H⟩
            subst eJ47
            refine c_region fun K hK => ?_
            refine st1 h rfl rfl rfl (v_move rfl) fun a h => ?_
            obtain ⟨z122_48, ez122_48, hS⟩ := bv hS
            refine st1 h rfl rfl rfl (vI ez122_48 (v_mulw rfl rfl)) fun a h => ?_
            refine st1 h rfl rfl rfl (v_move rfl) fun a h => ?_
            obtain ⟨z124_49, ez124_49, hS⟩ := bv hS
            refine st1 h rfl rfl rfl (vI ez124_49 (v_addw rfl rfl)) fun a h => ?_
            refine st1 h rfl rfl rfl (v_move rfl) fun a h => ?_
            obtain ⟨z126_50, ez126_50, hS⟩ := bv hS
            refine st1 h rfl rfl rfl (vI ez126_50 (v_mulw rfl rfl)) fun a h => ?_
            refine st1 h rfl rfl rfl (v_move rfl) fun a h => ?_
            obtain ⟨z128_51, ez128_51, hS⟩ := bv hS
            refine st1 h rfl rfl rfl (vI ez128_51 (v_addw rfl rfl)) fun a h => ?_
            refine st1 h rfl rfl rfl (v_move rfl) fun a h => ?_
            refine st1 h rfl rfl rfl (v_move rfl) fun a h => ?_
            obtain ⟨z131_52, ez131_52, hS⟩ := bv hS
            refine st1 h rfl rfl rfl (vI ez131_52 (v_mulw rfl rfl)) fun a h => ?_
            obtain ⟨z132_53, ez132_53, hS⟩ := bv hS
            refine st1 h rfl rfl rfl (vI ez132_53 (v_subw rfl rfl)) fun a h => ?_
            refine st1 h rfl rfl rfl (v_move rfl) fun a h => ?_
            obtain ⟨c54, hS⟩ := ck hS
            obtain ⟨z134_55, ez134_55, hS⟩ := bv hS
            refine st1 h rfl rfl rfl (vI ez134_55 (v_shr rfl rfl c54)) fun a h => ?_
            refine st1 h rfl rfl rfl (v_assign rfl) fun a h => ?_
            refine st1 h rfl rfl rfl (v_assign rfl) fun a h => ?_
            refine c_nil hK ?_
            have h := h.only [6, 7] (l' := [(6, _), (7, _)]) rfl
            obtain rfl := so hS
            refine c_ret (hret0 _ _ (out2 h rfl rfl rfl ?_))
            exact ⟨rfl, H.out⟩
          · have hret46 := hO46.ret hret0
            obtain ⟨B56, eB56, hS⟩ := bv hS
            refine c_loopN (fun mu_ a w => ∃ (Z : FZ) (s56 : Int × Int), loopF B56 mu_ s56 = some res ∧ Fr 135 [(2, .int .u64 z39_17), (8, .int .u64 z36_15), (9, .int .u64 z41_19), (10, .int .u64 z43_20), (14, .int .u64 z58_31), (15, .int .u64 s37), (16, .int .u64 s56.1), (17, .int .u64 z93_41), (18, .int .u64 s56.2)] a ∧ HZ w0 Zi Z [] w) KK ⟨_, (z101_45, z96_43), hS, (h.only [2, 8, 9, 10, 14, 15, 16, 17, 18] (l' := [(2, _), (8, _), (9, _), (10, _), (14, _), (15, _), (16, _), (17, _), (18, _)]) rfl), H⟩ ?_
            rintro mu_ a w ⟨Z, s56, hS, h, H⟩ Q57 hN57 hO57
            obtain ⟨mu_, rfl, n56, en56, hS⟩ := lpX eB56 hS
            have hret57 := hO57.ret hret46
            have hx2_57 := hO57.exit (i := 2) rfl hx2_46
            refine c_seq _ (fun a w c => c) fun Q58 hN58 hO58 => ?_
            have hret58 := hO58.ret hret57
            have hx2_58 := hO58.exit (i := 2) rfl hx2_57
            refine c_region fun K hK => ?_
            refine st1 h rfl rfl rfl (v_move rfl) fun a h => ?_
            obtain ⟨z103_59, ez103_59, hS⟩ := bv hS
            refine st1 h rfl rfl rfl (vB ez103_59 (v_ge rfl rfl)) fun a h => ?_
            refine st1 h rfl rfl rfl (v_move rfl) fun a h => ?_
            refine st_g h rfl rfl (gF rfl) rfl rfl (fun e0 => v_move rfl) fun a h => ?_
            refine st_g h rfl rfl (gF rfl) rfl rfl (fun e0 => v_move rfl) fun a h => ?_
            obtain ⟨z107_60, ez107_60, hS⟩ := bv hS
            refine st_g h rfl rfl (gF rfl) rfl rfl (fun e0 => vI ez107_60 (v_mulw (eg e0 rfl) (eg e0 rfl))) fun a h => ?_
            refine st_g h rfl rfl (gF rfl) rfl rfl (fun e0 => v_move rfl) fun a h => ?_
            obtain ⟨z109_61, ez109_61, hS⟩ := bv hS
            refine st_g h rfl rfl (gF rfl) rfl rfl (fun e0 => vI ez109_61 (v_mulw rfl (eg e0 rfl))) fun a h => ?_
            refine st_g h rfl rfl (gF rfl) rfl rfl (fun e0 => v_move rfl) fun a h => ?_
            obtain ⟨z111_62, ez111_62, hS⟩ := bv hS
            refine st_g h rfl rfl (gF rfl) rfl rfl (fun e0 => vI ez111_62 (v_addw (eg e0 rfl) (eg e0 rfl))) fun a h => ?_
            obtain ⟨z112_63, ez112_63, hS⟩ := bv hS
            refine st_g h rfl rfl (gF rfl) rfl rfl (fun e0 => vB ez112_63 (v_gt (eg e0 rfl) (eg e0 rfl))) fun a h => ?_
            obtain ⟨z113_64, ez113_64, hS⟩ := bv hS
            refine st1 h rfl rfl rfl (vB ez113_64 (v_or rfl rfl)) fun a h => ?_
            refine c_nil hK ?_
            have h := h.only [2, 8, 9, 10, 14, 15, 16, 17, 18, 113] (l' := [(2, _), (8, _), (9, _), (10, _), (14, _), (15, _), (16, _), (17, _), (18, _), (113, _)]) rfl
            refine c_cond h rfl (fun ec65 => ?_) (fun ec65 => ?_)
            · have hS := ifT ec65 hS
              refine c_skip ?_
              refine hN58 _ _ ?_
              refine c_lblock fun Q66 hN66 hx3_66 hO66 => ?_
              have hret66 := hO66.ret hret57
              have hx2_66 := hO66.exit (i := 2) rfl hx2_57
              refine c_region fun K hK => ?_
              refine st1 h rfl rfl rfl (v_move rfl) fun a h => ?_
              obtain ⟨z115_67, ez115_67, hS⟩ := bv hS
              refine st1 h rfl rfl rfl (vI ez115_67 (v_subw rfl rfl)) fun a h => ?_
              refine st1 h rfl rfl rfl (v_assign rfl) fun a h => ?_
              refine c_nil hK ?_
              refine c_region fun K hK => ?_
              refine st1 h rfl rfl rfl (v_move rfl) fun a h => ?_
              refine st1 h rfl rfl rfl (v_move rfl) fun a h => ?_
              obtain ⟨z118_68, ez118_68, hS⟩ := bv hS
              refine st1 h rfl rfl rfl (vI ez118_68 (v_addw rfl rfl)) fun a h => ?_
              refine st1 h rfl rfl rfl (v_assign rfl) fun a h => ?_
              refine c_nil hK ?_
              have h := h.only [2, 8, 9, 10, 14, 15, 16, 17, 18] (l' := [(2, _), (8, _), (9, _), (10, _), (14, _), (15, _), (16, _), (17, _), (18, _)]) rfl
              refine c_region fun K hK => ?_
              refine st1 h rfl rfl rfl (v_move rfl) fun a h => ?_
              obtain ⟨z120_69, ez120_69, hS⟩ := bv hS
              refine st1 h rfl rfl rfl (vB ez120_69 (v_ge rfl rfl)) fun a h => ?_
              refine c_nil hK ?_
              refine c_cond h rfl (fun ec70 => ?_) (fun ec70 => ?_)
              · have hS := ifT ec70 hS
                refine c_exit ?_
                exact hx2_66 _ _ ⟨_, z115_67, hS, (h.only [2, 8, 14, 15, 17, 18] (l' := [(2, _), (8, _), (14, _), (15, _), (17, _), (18, _)]) rfl), H⟩
              · have hS := ifF ec70 hS
                refine c_skip ?_
                refine hN66 _ _ ?_
                exact hN57 _ _ _ (Nat.lt_succ_self _) ⟨_, (z118_68, z115_67), lpN en56 hS, (h.only [2, 8, 9, 10, 14, 15, 16, 17, 18] (l' := [(2, _), (8, _), (9, _), (10, _), (14, _), (15, _), (16, _), (17, _), (18, _)]) rfl), H⟩
            · have hS := ifF ec65 hS
              refine c_exit ?_
              exact hx2_58 _ _ ⟨_, s56.2, hS, (h.only [2, 8, 14, 15, 17, 18] (l' := [(2, _), (8, _), (14, _), (15, _), (17, _), (18, _)]) rfl), H⟩
        · have hret36 := hO36.ret hret0
          obtain ⟨B71, eB71, hS⟩ := bv hS
          refine c_loopN (fun mu_ a w => ∃ (Z : FZ) (s71 : Int × Int), loopF B71 mu_ s71 = some res ∧ Fr 135 [(2, .int .u64 z39_17), (8, .int .u64 z36_15), (9, .int .u64 z41_19), (10, .int .u64 z43_20), (11, .int .u64 z51_26), (13, .int .u64 z56_30), (14, .int .u64 z58_31), (15, .int .u64 s71.1), (16, .int .u64 s71.2)] a ∧ HZ w0 Zi Z [] w) KK ⟨_, (z61_33, z66_35), hS, (h.only [2, 8, 9, 10, 11, 13, 14, 15, 16] (l' := [(2, _), (8, _), (9, _), (10, _), (11, _), (13, _), (14, _), (15, _), (16, _)]) rfl), H⟩ ?_
          rintro mu_ a w ⟨Z, s71, hS, h, H⟩ Q72 hN72 hO72
          obtain ⟨mu_, rfl, n71, en71, hS⟩ := lpX eB71 hS
          have hret72 := hO72.ret hret36
          have hx0_72 := hO72.exit (i := 0) rfl hx0_36
          refine c_seq _ (fun a w c => c) fun Q73 hN73 hO73 => ?_
          have hret73 := hO73.ret hret72
          have hx0_73 := hO73.exit (i := 0) rfl hx0_72
          refine c_region fun K hK => ?_
          refine st1 h rfl rfl rfl (v_move rfl) fun a h => ?_
          obtain ⟨z68_74, ez68_74, hS⟩ := bv hS
          refine st1 h rfl rfl rfl (vB ez68_74 (v_ge rfl rfl)) fun a h => ?_
          refine st1 h rfl rfl rfl (v_move rfl) fun a h => ?_
          refine st_g h rfl rfl (gF rfl) rfl rfl (fun e0 => v_move rfl) fun a h => ?_
          refine st_g h rfl rfl (gF rfl) rfl rfl (fun e0 => v_move rfl) fun a h => ?_
          obtain ⟨z72_75, ez72_75, hS⟩ := bv hS
          refine st_g h rfl rfl (gF rfl) rfl rfl (fun e0 => vI ez72_75 (v_mulw (eg e0 rfl) (eg e0 rfl))) fun a h => ?_
          refine st_g h rfl rfl (gF rfl) rfl rfl (fun e0 => v_move rfl) fun a h => ?_
          obtain ⟨z74_76, ez74_76, hS⟩ := bv hS
          refine st_g h rfl rfl (gF rfl) rfl rfl (fun e0 => vI ez74_76 (v_mulw rfl (eg e0 rfl))) fun a h => ?_
          refine st_g h rfl rfl (gF rfl) rfl rfl (fun e0 => v_move rfl) fun a h => ?_
          obtain ⟨z76_77, ez76_77, hS⟩ := bv hS
          refine st_g h rfl rfl (gF rfl) rfl rfl (fun e0 => vI ez76_77 (v_addw (eg e0 rfl) (eg e0 rfl))) fun a h => ?_
          obtain ⟨z77_78, ez77_78, hS⟩ := bv hS
          refine st_g h rfl rfl (gF rfl) rfl rfl (fun e0 => vB ez77_78 (v_gt (eg e0 rfl) (eg e0 rfl))) fun a h => ?_
          obtain ⟨z78_79, ez78_79, hS⟩ := bv hS
          refine st1 h rfl rfl rfl (vB ez78_79 (v_or rfl rfl)) fun a h => ?_
          refine c_nil hK ?_
          have h := h.only [2, 8, 9, 10, 11, 13, 14, 15, 16, 78] (l' := [(2, _), (8, _), (9, _), (10, _), (11, _), (13, _), (14, _), (15, _), (16, _), (78, _)]) rfl
          refine c_cond h rfl (fun ec80 => ?_) (fun ec80 => ?_)
          · have hS := ifT ec80 hS
            refine c_skip ?_
            refine hN73 _ _ ?_
            refine c_lblock fun Q81 hN81 hx1_81 hO81 => ?_
            have hret81 := hO81.ret hret72
            have hx0_81 := hO81.exit (i := 0) rfl hx0_72
            refine c_region fun K hK => ?_
            refine st1 h rfl rfl rfl (v_move rfl) fun a h => ?_
            obtain ⟨z80_82, ez80_82, hS⟩ := bv hS
            refine st1 h rfl rfl rfl (vI ez80_82 (v_subw rfl rfl)) fun a h => ?_
            refine st1 h rfl rfl rfl (v_assign rfl) fun a h => ?_
            refine c_nil hK ?_
            refine c_region fun K hK => ?_
            refine st1 h rfl rfl rfl (v_move rfl) fun a h => ?_
            refine st1 h rfl rfl rfl (v_move rfl) fun a h => ?_
            obtain ⟨z83_83, ez83_83, hS⟩ := bv hS
            refine st1 h rfl rfl rfl (vI ez83_83 (v_addw rfl rfl)) fun a h => ?_
            refine st1 h rfl rfl rfl (v_assign rfl) fun a h => ?_
            refine c_nil hK ?_
            have h := h.only [2, 8, 9, 10, 11, 13, 14, 15, 16] (l' := [(2, _), (8, _), (9, _), (10, _), (11, _), (13, _), (14, _), (15, _), (16, _)]) rfl
            refine c_region fun K hK => ?_
            refine st1 h rfl rfl rfl (v_move rfl) fun a h => ?_
            obtain ⟨z85_84, ez85_84, hS⟩ := bv hS
            refine st1 h rfl rfl rfl (vB ez85_84 (v_ge rfl rfl)) fun a h => ?_
            refine c_nil hK ?_
            refine c_cond h rfl (fun ec85 => ?_) (fun ec85 => ?_)
            · have hS := ifT ec85 hS
              refine c_exit ?_
              exact hx0_81 _ _ ⟨_, z80_82, hS, (h.only [2, 8, 9, 10, 11, 13, 14, 15] (l' := [(2, _), (8, _), (9, _), (10, _), (11, _), (13, _), (14, _), (15, _)]) rfl), H⟩
            · have hS := ifF ec85 hS
              refine c_skip ?_
              refine hN81 _ _ ?_
              exact hN72 _ _ _ (Nat.lt_succ_self _) ⟨_, (z80_82, z83_83), lpN en71 hS, (h.only [2, 8, 9, 10, 11, 13, 14, 15, 16] (l' := [(2, _), (8, _), (9, _), (10, _), (11, _), (13, _), (14, _), (15, _), (16, _)]) rfl), H⟩
          · have hS := ifF ec80 hS
            refine c_exit ?_
            exact hx0_73 _ _ ⟨_, s71.1, hS, (h.only [2, 8, 9, 10, 11, 13, 14, 15] (l' := [(2, _), (8, _), (9, _), (10, _), (11, _), (13, _), (14, _), (15, _)]) rfl), H⟩
    · have hret3 := hO3.ret hret0
      refine c_region fun K hK => ?_
      refine st1 h rfl rfl rfl (v_move rfl) fun a h => ?_
      refine st1 h rfl rfl rfl (v_move rfl) fun a h => ?_
      obtain ⟨z24_86, ez24_86, hS⟩ := bv hS
      refine st1 h rfl rfl rfl (vB ez24_86 (v_le rfl rfl)) fun a h => ?_
      refine c_nil hK ?_
      refine c_cond h rfl (fun ec87 => ?_) (fun ec87 => ?_)
      · have hS := ifT ec87 hS
        exact nomatch hS
      · have hS := ifF ec87 hS
        refine c_skip ?_
        exact hN3 _ _ ⟨_, (), hS, (h.only [0, 1, 2] (l' := [(0, _), (1, _), (2, _)]) rfl), H⟩
  · have hret1 := hO1.ret hret0
    refine c_region fun K hK => ?_
    refine st1 h rfl rfl rfl (v_move rfl) fun a h => ?_
    obtain ⟨z20_88, ez20_88, hS⟩ := bv hS
    refine st1 h rfl rfl rfl (vB ez20_88 (v_eq rfl rfl)) fun a h => ?_
    refine c_nil hK ?_
    refine c_cond h rfl (fun ec89 => ?_) (fun ec89 => ?_)
    · have hS := ifT ec89 hS
      exact nomatch hS
    · have hS := ifF ec89 hS
      refine c_skip ?_
      exact hN1 _ _ ⟨_, (), hS, (h.only [0, 1, 2] (l' := [(0, _), (1, _), (2, _)]) rfl), H⟩

theorem num_scaled_ok {x0 : Int} {x1 : Int} {x2 : Int} {res : Int × Bool} {w0 : World} (hS : num_scaled x0 x1 x2 = some res) : Calls Tryd.prog 31 [.int .u64 x0, .int .u64 x1, .int .u64 x2].toArray w0 (Ret fun v w => v = .tuple #[.int .u64 res.1, .bool res.2] ∧ Ext w0 w) := by
  refine enter Tryd.func31 rfl rfl rfl fun Q a h hret0 hnor => ?_
  obtain ⟨Zi, Z, H⟩ : ∃ Zi Z, HZ w0 Zi Z [] w0 := ⟨_, _, HZ.start w0⟩
  have h := h.only [0, 1, 2] (l' := [(0, _), (1, _), (2, _)]) rfl
  unfold num_scaled at hS
  refine c_region fun K hK => ?_
  refine st1 h rfl rfl rfl (v_assign rfl) fun a h => ?_
  refine st1 h rfl rfl rfl (v_assign rfl) fun a h => ?_
  refine c_nil hK ?_
  refine c_region fun K hK => ?_
  refine st1 h rfl rfl rfl (v_move rfl) fun a h => ?_
  refine st1 h rfl rfl rfl (v_move rfl) fun a h => ?_
  obtain ⟨c2, hS⟩ := ck hS
  obtain ⟨z15_3, ez15_3, hS⟩ := bv hS
  refine st2v (T := Ext) (V := .tuple #[.int .u64 z15_3.1, .int .u64 z15_3.2]) h rfl rfl rfl ((by rw [ez15_3]; exact d_call [_, _] rfl Tryd.call37 (lib_mul64 c2))) fun w X a h => ?_
  have H := H.ext X
  refine st1 h rfl rfl rfl (v_move rfl) fun a h => ?_
  refine st1 h rfl rfl rfl (v_extract rfl rfl) fun a h => ?_
  refine st1 h rfl rfl rfl (v_extract rfl rfl) fun a h => ?_
  refine st1 h rfl rfl rfl (v_assign rfl) fun a h => ?_
  refine st1 h rfl rfl rfl (v_assign rfl) fun a h => ?_
  refine c_nil hK ?_
  have h := h.only [2, 8, 9] (l' := [(2, _), (8, _), (9, _)]) rfl
  refine c_seq _ (fun a w c => c) fun Q4 hN4 hO4 => ?_
  have hret4 := hO4.ret hret0
  refine c_region fun K hK => ?_
  refine st1 h rfl rfl rfl (v_move rfl) fun a h => ?_
  refine st1 h rfl rfl rfl (v_move rfl) fun a h => ?_
  obtain ⟨z20_5, ez20_5, hS⟩ := bv hS
  refine st1 h rfl rfl rfl (vB ez20_5 (v_ge rfl rfl)) fun a h => ?_
  refine c_nil hK ?_
  refine c_cond h rfl (fun ec6 => ?_) (fun ec6 => ?_)
  · have hS := ifT ec6 hS
    refine c_region fun K hK => ?_
    refine st1 h rfl rfl rfl (v_assign rfl) fun a h => ?_
    refine st1 h rfl rfl rfl (v_assign rfl) fun a h => ?_
    refine c_nil hK ?_
    have h := h.only [6, 7] (l' := [(6, _), (7, _)]) rfl
    obtain rfl := so hS
    refine c_ret (hret4 _ _ (out2 h rfl rfl rfl ?_))
    exact ⟨rfl, H.out⟩
  · have hS := ifF ec6 hS
    refine c_skip ?_
    refine hN4 _ _ ?_
    refine c_region fun K hK => ?_
    refine st1 h rfl rfl rfl (v_move rfl) fun a h => ?_
    refine st1 h rfl rfl rfl (v_move rfl) fun a h => ?_
    refine st1 h rfl rfl rfl (v_move rfl) fun a h => ?_
    obtain ⟨y25_7, hy25_7, hS⟩ := bo hS
    refine st2v (T := Ext) (V := .tuple #[.int .u64 y25_7.1, .int .u64 y25_7.2]) h rfl rfl rfl (d_call [_, _, _] rfl Tryd.call39 (bits_Div64_ok (x0 := z15_3.1) (x1 := z15_3.2) (x2 := x2) hy25_7)) fun w X a h => ?_
    have H := H.ext X
    refine st1 h rfl rfl rfl (v_move rfl) fun a h => ?_
    refine st1 h rfl rfl rfl (v_extract rfl rfl) fun a h => ?_
    refine st1 h rfl rfl rfl (v_extract rfl rfl) fun a h => ?_
    refine st1 h rfl rfl rfl (v_assign rfl) fun a h => ?_
    refine st1 h rfl rfl rfl (v_assign rfl) fun a h => ?_
    refine c_nil hK ?_
    have h := h.only [2, 10, 11] (l' := [(2, _), (10, _), (11, _)]) rfl
    obtain ⟨J9, eJ9, hS⟩ := bv hS
    refine c_seq (fun a w => ∃ (Z : FZ) (s9 : Int), J9 s9 = some res ∧ Fr 45 [(2, .int .u64 x2), (10, .int .u64 s9), (11, .int .u64 y25_7.2)] a ∧ HZ w0 Zi Z [] w) ?_ fun Q8 hN8 hO8 => ?_
    · rintro a w ⟨Z, s9, hS, h, H⟩
      subst eJ9
      refine c_region fun K hK => ?_
      refine st1 h rfl rfl rfl (v_move rfl) fun a h => ?_
      refine st1 h rfl rfl rfl (v_move rfl) fun a h => ?_
      obtain ⟨z37_10, ez37_10, hS⟩ := bv hS
      refine st1 h rfl rfl rfl (vB ez37_10 (v_ne rfl rfl)) fun a h => ?_
      refine st1 h rfl rfl rfl (v_move rfl) fun a h => ?_
      refine st_g h rfl rfl (gF rfl) rfl rfl (fun e0 => v_move rfl) fun a h => ?_
      refine st_g h rfl rfl (gF rfl) rfl rfl (fun e0 => v_move rfl) fun a h => ?_
      refine st_g h rfl rfl (gF rfl) rfl rfl (fun e0 => v_move rfl) fun a h => ?_
      obtain ⟨z42_11, ez42_11, hS⟩ := bv hS
      refine st_g h rfl rfl (gF rfl) rfl rfl (fun e0 => vI ez42_11 (v_subw (eg e0 rfl) (eg e0 rfl))) fun a h => ?_
      obtain ⟨z43_12, ez43_12, hS⟩ := bv hS
      refine st_g h rfl rfl (gF rfl) rfl rfl (fun e0 => vB ez43_12 (v_lt (eg e0 rfl) (eg e0 rfl))) fun a h => ?_
      obtain ⟨z44_13, ez44_13, hS⟩ := bv hS
      refine st1 h rfl rfl rfl (vB ez44_13 (v_or rfl rfl)) fun a h => ?_
      refine st1 h rfl rfl rfl (v_assign rfl) fun a h => ?_
      refine st1 h rfl rfl rfl (v_assign rfl) fun a h => ?_
      refine c_nil hK ?_
      have h := h.only [6, 7] (l' := [(6, _), (7, _)]) rfl
      obtain rfl := so hS
      refine c_ret (hret0 _ _ (out2 h rfl rfl rfl ?_))
      exact ⟨rfl, H.out⟩
    · have hret8 := hO8.ret hret0
      refine c_region fun K hK => ?_
      refine st1 h rfl rfl rfl (v_move rfl) fun a h => ?_
      refine st1 h rfl rfl rfl (v_move rfl) fun a h => ?_
      refine st1 h rfl rfl rfl (v_move rfl) fun a h => ?_
      obtain ⟨z31_14, ez31_14, hS⟩ := bv hS
      refine st1 h rfl rfl rfl (vI ez31_14 (v_subw rfl rfl)) fun a h => ?_
      obtain ⟨z32_15, ez32_15, hS⟩ := bv hS
      refine st1 h rfl rfl rfl (vB ez32_15 (v_ge rfl rfl)) fun a h => ?_
      refine c_nil hK ?_
      have h := h.only [2, 10, 11, 32] (l' := [(2, _), (10, _), (11, _), (32, _)]) rfl
      refine c_cond h rfl (fun ec16 => ?_) (fun ec16 => ?_)
      · have hS := ifT ec16 hS
        refine c_lregion ?_
        refine st1 h rfl rfl rfl (v_move rfl) fun a h => ?_
        obtain ⟨z34_17, ez34_17, hS⟩ := bv hS
        refine st1 h rfl rfl rfl (vI ez34_17 (v_addw rfl rfl)) fun a h => ?_
        refine st1 h rfl rfl rfl (v_assign rfl) fun a h => ?_
        refine c_lnil ?_
        exact hN8 _ _ ⟨_, z34_17, hS, (h.only [2, 10, 11] (l' := [(2, _), (10, _), (11, _)]) rfl), H⟩
      · have hS := ifF ec16 hS
        refine c_skip ?_
        exact hN8 _ _ ⟨_, y25_7.1, hS, (h.only [2, 10, 11] (l' := [(2, _), (10, _), (11, _)]) rfl), H⟩

theorem num_Mul_ok {x0 : Int} {x1 : Int} {res : Int × Bool} {w0 : World} (hS : num_Mul x0 x1 = some res) : Calls Tryd.prog 17 [.int .i64 x0, .int .i64 x1].toArray w0 (Ret fun v w => v = .tuple #[.int .i64 res.1, .bool res.2] ∧ Ext w0 w) := by
  refine enter Tryd.func17 rfl rfl rfl fun Q a h hret0 hnor => ?_
  obtain ⟨Zi, Z, H⟩ : ∃ Zi Z, HZ w0 Zi Z [] w0 := ⟨_, _, HZ.start w0⟩
  have h := h.only [0, 1] (l' := [(0, _), (1, _)]) rfl
  unfold num_Mul at hS
  refine c_region fun K hK => ?_
  refine st1 h rfl rfl rfl (v_assign rfl) fun a h => ?_
  refine st1 h rfl rfl rfl (v_assign rfl) fun a h => ?_
  refine c_nil hK ?_
  refine c_region fun K hK => ?_
  refine st1 h rfl rfl rfl (v_move rfl) fun a h => ?_
  obtain ⟨y10_1, hy10_1, hS⟩ := bo hS
  refine st2v (T := Ext) (V := .int .u64 y10_1) h rfl rfl rfl (d_call [_] rfl Tryd.call32 (num_abs_ok (x0 := x0) hy10_1)) fun w X a h => ?_
  have H := H.ext X
  refine st1 h rfl rfl rfl (v_move rfl) fun a h => ?_
  obtain ⟨y12_2, hy12_2, hS⟩ := bo hS
  refine st2v (T := Ext) (V := .int .u64 y12_2) h rfl rfl rfl (d_call [_] rfl Tryd.call32 (num_abs_ok (x0 := x1) hy12_2)) fun w X a h => ?_
  have H := H.ext X
  obtain ⟨y13_3, hy13_3, hS⟩ := bo hS
  refine st2v (T := Ext) (V := .tuple #[.int .u64 y13_3.1, .bool y13_3.2]) h rfl rfl rfl (d_call [_, _, _] rfl Tryd.call31 (num_scaled_ok (x0 := y10_1) (x1 := y12_2) (x2 := (1000000 : Int)) hy13_3)) fun w X a h => ?_
  have H := H.ext X
  refine st1 h rfl rfl rfl (v_move rfl) fun a h => ?_
  refine st1 h rfl rfl rfl (v_extract rfl rfl) fun a h => ?_
  refine st1 h rfl rfl rfl (v_extract rfl rfl) fun a h => ?_
  refine st1 h rfl rfl rfl (v_assign rfl) fun a h => ?_
  refine st1 h rfl rfl rfl (v_assign rfl) fun a h => ?_
  refine c_nil hK ?_
  have h := h.only [0, 1, 6, 7] (l' := [(0, _), (1, _), (6, _), (7, _)]) rfl
  refine c_seq _ (fun a w c => c) fun Q4 hN4 hO4 => ?_
  have hret4 := hO4.ret hret0
  refine c_region fun K hK => ?_
  refine st1 h rfl rfl rfl (v_move rfl) fun a h => ?_
  obtain ⟨z17_5, ez17_5, hS⟩ := bv hS
  refine st1 h rfl rfl rfl (vB ez17_5 (v_not rfl)) fun a h => ?_
  refine c_nil hK ?_
  refine c_cond h rfl (fun ec6 => ?_) (fun ec6 => ?_)
  · have hS := ifT ec6 hS
    refine c_region fun K hK => ?_
    refine st1 h rfl rfl rfl (v_assign rfl) fun a h => ?_
    refine st1 h rfl rfl rfl (v_assign rfl) fun a h => ?_
    refine c_nil hK ?_
    have h := h.only [4, 5] (l' := [(4, _), (5, _)]) rfl
    obtain rfl := so hS
    refine c_ret (hret4 _ _ (out2 h rfl rfl rfl ?_))
    exact ⟨rfl, H.out⟩
  · have hS := ifF ec6 hS
    refine c_skip ?_
    refine hN4 _ _ ?_
    refine c_region fun K hK => ?_
    refine st1 h rfl rfl rfl (v_move rfl) fun a h => ?_
    refine st1 h rfl rfl rfl (v_move rfl) fun a h => ?_
    obtain ⟨z20_7, ez20_7, hS⟩ := bv hS
    refine st1 h rfl rfl rfl (vB ez20_7 (v_lt rfl rfl)) fun a h => ?_
    refine st1 h rfl rfl rfl (v_move rfl) fun a h => ?_
    obtain ⟨z22_8, ez22_8, hS⟩ := bv hS
    refine st1 h rfl rfl rfl (vB ez22_8 (v_lt rfl rfl)) fun a h => ?_
    obtain ⟨z23_9, ez23_9, hS⟩ := bv hS
    refine st1 h rfl rfl rfl (vB ez23_9 (v_bne Tryd.underlying4 rfl rfl)) fun a h => ?_
    obtain ⟨y24_10, hy24_10, hS⟩ := bo hS
    refine st2v (T := Ext) (V := .tuple #[.int .i64 y24_10.1, .bool y24_10.2]) h rfl rfl rfl (d_call [_, _] rfl Tryd.call33 (num_signed_ok (x0 := y13_3.1) (x1 := z23_9) hy24_10)) fun w X a h => ?_
    have H := H.ext X
    refine st1 h rfl rfl rfl (v_extract rfl rfl) fun a h => ?_
    refine st1 h rfl rfl rfl (v_extract rfl rfl) fun a h => ?_
    refine st1 h rfl rfl rfl (v_assign rfl) fun a h => ?_
    refine st1 h rfl rfl rfl (v_assign rfl) fun a h => ?_
    refine c_nil hK ?_
    have h := h.only [4, 5] (l' := [(4, _), (5, _)]) rfl
    obtain rfl := so hS
    refine c_ret (hret0 _ _ (out2 h rfl rfl rfl ?_))
    exact ⟨rfl, H.out⟩

theorem num_Quo_ok {x0 : Int} {x1 : Int} {res : Int × Bool} {w0 : World} (hS : num_Quo x0 x1 = some res) : Calls Tryd.prog 18 [.int .i64 x0, .int .i64 x1].toArray w0 (Ret fun v w => v = .tuple #[.int .i64 res.1, .bool res.2] ∧ Ext w0 w) := by
  refine enter Tryd.func18 rfl rfl rfl fun Q a h hret0 hnor => ?_
  obtain ⟨Zi, Z, H⟩ : ∃ Zi Z, HZ w0 Zi Z [] w0 := ⟨_, _, HZ.start w0⟩
  have h := h.only [0, 1] (l' := [(0, _), (1, _)]) rfl
  unfold num_Quo at hS
  refine c_region fun K hK => ?_
  refine st1 h rfl rfl rfl (v_assign rfl) fun a h => ?_
  refine st1 h rfl rfl rfl (v_assign rfl) fun a h => ?_
  refine c_nil hK ?_
  refine c_seq _ (fun a w c => c) fun Q1 hN1 hO1 => ?_
  have hret1 := hO1.ret hret0
  refine c_region fun K hK => ?_
  refine st1 h rfl rfl rfl (v_move rfl) fun a h => ?_
  obtain ⟨z9_2, ez9_2, hS⟩ := bv hS
  refine st1 h rfl rfl rfl (vB ez9_2 (v_eq rfl rfl)) fun a h => ?_
  refine c_nil hK ?_
  refine c_cond h rfl (fun ec3 => ?_) (fun ec3 => ?_)
  · have hS := ifT ec3 hS
    refine c_region fun K hK => ?_
    refine st1 h rfl rfl rfl (v_assign rfl) fun a h => ?_
    refine st1 h rfl rfl rfl (v_assign rfl) fun a h => ?_
    refine c_nil hK ?_
    have h := h.only [4, 5] (l' := [(4, _), (5, _)]) rfl
    obtain rfl := so hS
    refine c_ret (hret1 _ _ (out2 h rfl rfl rfl ?_))
    exact ⟨rfl, H.out⟩
  · have hS := ifF ec3 hS
    refine c_skip ?_
    refine hN1 _ _ ?_
    have h := h.only [0, 1] (l' := [(0, _), (1, _)]) rfl
    refine c_region fun K hK => ?_
    refine st1 h rfl rfl rfl (v_move rfl) fun a h => ?_
    obtain ⟨y12_4, hy12_4, hS⟩ := bo hS
    refine st2v (T := Ext) (V := .int .u64 y12_4) h rfl rfl rfl (d_call [_] rfl Tryd.call32 (num_abs_ok (x0 := x0) hy12_4)) fun w X a h => ?_
    have H := H.ext X
    refine st1 h rfl rfl rfl (v_move rfl) fun a h => ?_
    obtain ⟨y14_5, hy14_5, hS⟩ := bo hS
    refine st2v (T := Ext) (V := .int .u64 y14_5) h rfl rfl rfl (d_call [_] rfl Tryd.call32 (num_abs_ok (x0 := x1) hy14_5)) fun w X a h => ?_
    have H := H.ext X
    obtain ⟨y15_6, hy15_6, hS⟩ := bo hS
    refine st2v (T := Ext) (V := .tuple #[.int .u64 y15_6.1, .bool y15_6.2]) h rfl rfl rfl (d_call [_, _, _] rfl Tryd.call31 (num_scaled_ok (x0 := y12_4) (x1 := (1000000 : Int)) (x2 := y14_5) hy15_6)) fun w X a h => ?_
    have H := H.ext X
    refine st1 h rfl rfl rfl (v_move rfl) fun a h => ?_
    refine st1 h rfl rfl rfl (v_extract rfl rfl) fun a h => ?_
    refine st1 h rfl rfl rfl (v_extract rfl rfl) fun a h => ?_
    refine st1 h rfl rfl rfl (v_assign rfl) fun a h => ?_
    refine st1 h rfl rfl rfl (v_assign rfl) fun a h => ?_
    refine c_nil hK ?_
    have h := h.only [0, 1, 6, 7] (l' := [(0, _), (1, _), (6, _), (7, _)]) rfl
    refine c_seq _ (fun a w c => c) fun Q7 hN7 hO7 => ?_
    have hret7 := hO7.ret hret0
    refine c_region fun K hK => ?_
    refine st1 h rfl rfl rfl (v_move rfl) fun a h => ?_
    obtain ⟨z19_8, ez19_8, hS⟩ := bv hS
    refine st1 h rfl rfl rfl (vB ez19_8 (v_not rfl)) fun a h => ?_
    refine c_nil hK ?_
    refine c_cond h rfl (fun ec9 => ?_) (fun ec9 => ?_)
    · have hS := ifT ec9 hS
      refine c_region fun K hK => ?_
      refine st1 h rfl rfl rfl (v_assign rfl) fun a h => ?_
      refine st1 h rfl rfl rfl (v_assign rfl) fun a h => ?_
      refine c_nil hK ?_
      have h := h.only [4, 5] (l' := [(4, _), (5, _)]) rfl
      obtain rfl := so hS
      refine c_ret (hret7 _ _ (out2 h rfl rfl rfl ?_))
      exact ⟨rfl, H.out⟩
    · have hS := ifF ec9 hS
      refine c_skip ?_
      refine hN7 _ _ ?_
      refine c_region fun K hK => ?_
      refine st1 h rfl rfl rfl (v_move rfl) fun a h => ?_
      refine st1 h rfl rfl rfl (v_move rfl) fun a h => ?_
      obtain ⟨z22_10, ez22_10, hS⟩ := bv hS
      refine st1 h rfl rfl rfl (vB ez22_10 (v_lt rfl rfl)) fun a h => ?_
      refine st1 h rfl rfl rfl (v_move rfl) fun a h => ?_
      obtain ⟨z24_11, ez24_11, hS⟩ := bv hS
      refine st1 h rfl rfl rfl (vB ez24_11 (v_lt rfl rfl)) fun a h => ?_
      obtain ⟨z25_12, ez25_12, hS⟩ := bv hS
      refine st1 h rfl rfl rfl (vB ez25_12 (v_bne Tryd.underlying4 rfl rfl)) fun a h => ?_
      obtain ⟨y26_13, hy26_13, hS⟩ := bo hS
      refine st2v (T := Ext) (V := .tuple #[.int .i64 y26_13.1, .bool y26_13.2]) h rfl rfl rfl (d_call [_, _] rfl Tryd.call33 (num_signed_ok (x0 := y15_6.1) (x1 := z25_12) hy26_13)) fun w X a h => ?_
      have H := H.ext X
      refine st1 h rfl rfl rfl (v_extract rfl rfl) fun a h => ?_
      refine st1 h rfl rfl rfl (v_extract rfl rfl) fun a h => ?_
      refine st1 h rfl rfl rfl (v_assign rfl) fun a h => ?_
      refine st1 h rfl rfl rfl (v_assign rfl) fun a h => ?_
      refine c_nil hK ?_
      have h := h.only [4, 5] (l' := [(4, _), (5, _)]) rfl
      obtain rfl := so hS
      refine c_ret (hret0 _ _ (out2 h rfl rfl rfl ?_))
      exact ⟨rfl, H.out⟩

theorem num_Print_ok {x0 : Int} {res : (List UInt8)} {w0 : World} (hS : num_Print x0 = some res) : Calls Tryd.prog 22 [.int .i64 x0].toArray w0 (Ret fun v w => v = S res ∧ Ext w0 w) := by
  refine enter Tryd.func22 rfl rfl rfl fun Q a h hret0 hnor => ?_
  obtain ⟨Zi, Z, H⟩ : ∃ Zi Z, HZ w0 Zi Z [] w0 := ⟨_, _, HZ.start w0⟩
  have h := h.only [0] (l' := [(0, _)]) rfl
  unfold num_Print at hS
  refine c_region fun K hK => ?_
  refine st1 h rfl rfl rfl (v_assign rfl) fun a h => ?_
  refine c_nil hK ?_
  refine c_region fun K hK => ?_
  refine st1 h rfl rfl rfl (v_move rfl) fun a h => ?_
  obtain ⟨y11_1, hy11_1, hS⟩ := bo hS
  refine st2v (T := Ext) (V := .int .u64 y11_1) h rfl rfl rfl (d_call [_] rfl Tryd.call32 (num_abs_ok (x0 := x0) hy11_1)) fun w X a h => ?_
  have H := H.ext X
  refine st1 h rfl rfl rfl (v_assign rfl) fun a h => ?_
  refine c_nil hK ?_
  refine c_region fun K hK => ?_
  refine z_slice0 h H Tryd.underlying56 Tryd.sizeOf5 rfl fun a v12_2 w X H h => ?_
  have H : HZ w0 _ _ [_] _ := H
  refine st1 h rfl rfl rfl (v_assign rfl) fun a h => ?_
  refine c_nil hK ?_
  have h := h.only [0, 3, 4] (l' := [(0, _), (3, _), (4, _)]) rfl
  refine c_region fun K hK => ?_
  refine st1 h rfl rfl rfl (v_assign rfl) fun a h => ?_
  refine c_nil hK ?_
  obtain ⟨J4, eJ4, hS⟩ := bv hS
  refine c_seq (fun a w => ∃ (Z : FZ) (s4 : (List (Int))) (sv5 : Value), J4 s4 = some res ∧ Fr 74 [(0, .int .i64 x0), (4, sv5)] a ∧ HZ w0 Zi Z [.row 5 1 sv5 (s4 : List (Int)).length ((s4 : List (Int)).flatMap (eI .u8))] w) ?_ fun Q3 hN3 hO3 => ?_
  · rintro a w ⟨Z, s4, sv5, hS, h, H⟩
    subst eJ4
    obtain ⟨J7, eJ7, hS⟩ := bv hS
    refine c_seq (fun a w => ∃ (Z : FZ) (s7 : (List (Int))) (sv8 : Value), J7 s7 = some res ∧ Fr 74 [(4, sv8)] a ∧ HZ w0 Zi Z [.row 5 1 sv8 (s7 : List (Int)).length ((s7 : List (Int)).flatMap (eI .u8))] w) ?_ fun Q6 hN6 hO6 => ?_
    · rintro a w ⟨Z, s7, sv8, hS, h, H⟩
      subst eJ7
      obtain ⟨J10, eJ10, hS⟩ := bv hS
      refine c_seq (fun a w => ∃ (Z : FZ) (s10 : (List (Int))) (sv11 : Value), J10 s10 = some res ∧ Fr 74 [(4, sv11)] a ∧ HZ w0 Zi Z [.row 5 1 sv11 (s10 : List (Int)).length ((s10 : List (Int)).flatMap (eI .u8))] w) ?_ fun Q9 hN9 hO9 => ?_
      · rintro a w ⟨Z, s10, sv11, hS, h, H⟩
        subst eJ10
        refine c_region fun K hK => ?_
        refine st1 h rfl rfl rfl (v_move rfl) fun a h => ?_
        obtain ⟨c12, hS⟩ := ck hS
        obtain ⟨z73_13, ez73_13, hS⟩ := bv hS
        refine st1 h rfl rfl rfl (vS ez73_13 (v_toStrI Tryd.underlying56 Tryd.underlying5 Tryd.underlying9 rfl (H.getRow (i := 0) (enc := (eI .u8)) rfl) c12)) fun a h => ?_
        refine st1 h rfl rfl rfl (v_assign rfl) fun a h => ?_
        refine c_nil hK ?_
        obtain rfl := so hS
        refine c_ret (hret0 _ _ (out1 h rfl rfl ?_))
        exact ⟨rfl, H.out⟩
      · have hret9 := hO9.ret hret0
        refine c_region fun K hK => ?_
        refine st1 h rfl rfl rfl (v_move rfl) fun a h => ?_
        refine st1 h rfl rfl rfl (v_len Tryd.underlying56 rfl (H.getRow (i := 0) (enc := (eI .u8)) rfl)) fun a h => ?_
        obtain ⟨z50_14, ez50_14, hS⟩ := bv hS
        refine st1 h rfl rfl rfl (vI ez50_14 (v_subw rfl rfl)) fun a h => ?_
        refine st1 h rfl rfl rfl (v_assign rfl) fun a h => ?_
        refine st1 h rfl rfl rfl (v_assign rfl) fun a h => ?_
        refine c_nil hK ?_
        refine c_lblock fun Q15 hN15 hx2_15 hO15 => ?_
        have hret15 := hO15.ret hret9
        obtain ⟨B16, eB16, hS⟩ := bv hS
        refine c_loopN (fun mu_ a w => ∃ (Z : FZ) (s16 : Int × Int × (List (Int))) (sv18 : Value), loopF B16 mu_ s16 = some res ∧ Fr 74 [(4, sv18), (8, .int .i64 s16.1), (9, .int .i64 s16.2.1)] a ∧ HZ w0 Zi Z [.row 5 1 sv18 (s16.2.2 : List (Int)).length ((s16.2.2 : List (Int)).flatMap (eI .u8))] w) KK ⟨_, (0, z50_14, s7), _, hS, (h.only [4, 8, 9] (l' := [(4, _), (8, _), (9, _)]) rfl), H⟩ ?_
        rintro mu_ a w ⟨Z, s16, sv18, hS, h, H⟩ Q17 hN17 hO17
        obtain ⟨mu_, rfl, n16, en16, hS⟩ := lpX eB16 hS
        have hret17 := hO17.ret hret15
        have hx2_17 := hO17.exit (i := 2) rfl hx2_15
        refine c_seq _ (fun a w c => c) fun Q19 hN19 hO19 => ?_
        have hret19 := hO19.ret hret17
        have hx2_19 := hO19.exit (i := 2) rfl hx2_17
        refine c_region fun K hK => ?_
        refine st1 h rfl rfl rfl (v_move rfl) fun a h => ?_
        refine st1 h rfl rfl rfl (v_move rfl) fun a h => ?_
        obtain ⟨z53_20, ez53_20, hS⟩ := bv hS
        refine st1 h rfl rfl rfl (vB ez53_20 (v_lt rfl rfl)) fun a h => ?_
        refine c_nil hK ?_
        refine c_cond h rfl (fun ec21 => ?_) (fun ec21 => ?_)
        · have hS := ifT ec21 hS
          refine c_skip ?_
          refine hN19 _ _ ?_
          refine c_block _ (fun a w c => c) fun Q22 hN22 hx3_22 hO22 => ?_
          have hret22 := hO22.ret hret17
          have hx2_22 := hO22.exit (i := 2) rfl hx2_17
          obtain ⟨c23, hS⟩ := ck hS
          obtain ⟨c24, hS⟩ := ck hS
          obtain ⟨zrow_25, ezrow_25, hS⟩ := bv hS
          obtain ⟨bb, cap_, cs, hsv, hb, hcl, hct⟩ := H.openRow (i := 0) rfl (by omega)
          rw [hsv] at h H
          have hpi := row_at hct c23
          have hpj := row_at hct c24
          have hli : (Int.toNat s16.1) < cs.length := by omega
          have hlj : (Int.toNat s16.2.1) < cs.length := by omega
          refine c_lany (by kernel_rfl) ?_
          have H := H.ext (Ext.drew w)
          have hb : (w.drew).heap[bb]? = some (.cells cs.toArray 5 (0, 0)) := hb
          have hX : ({ w with drawn := w.drawn + 1 } : World) = w.drew := rfl
          rw [hX]
          generalize w.drew = wd at *
          refine a_hoist (i := 0) h rfl rfl rfl rfl (fun w => v_move rfl) (by kernel_rfl) rfl fun a h => ?_
          refine a_hoist (i := 1) h rfl rfl rfl rfl (fun w => v_move rfl) (by kernel_rfl) rfl fun a h => ?_
          refine a_hoist (i := 2) h rfl rfl rfl rfl (fun w => v_move rfl) (by kernel_rfl) rfl fun a h => ?_
          refine a_hoist (i := 3) h rfl rfl rfl rfl (fun w => v_move rfl) (by kernel_rfl) rfl fun a h => ?_
          refine a_hoist (i := 4) h rfl rfl rfl rfl (fun w => v_move rfl) (by kernel_rfl) rfl fun a h => ?_
          refine a_hoist (i := 5) h rfl rfl rfl rfl (fun w => v_move rfl) (by kernel_rfl) rfl fun a h => ?_
          refine a_hoist (i := 6) h rfl rfl rfl rfl (fun w => v_idxB (data := s16.2.2) (sz := 1) Tryd.underlying56 Tryd.sizeOf5 rfl rfl rfl c24) (by kernel_rfl) rfl fun a h => ?_
          refine a_hoist (i := 8) h rfl rfl rfl rfl (fun w => v_move rfl) (by kernel_rfl) rfl fun a h => ?_
          refine a_hoist (i := 9) h rfl rfl rfl rfl (fun w => v_move rfl) (by kernel_rfl) rfl fun a h => ?_
          refine a_hoist (i := 10) h rfl rfl rfl rfl (fun w => v_idxB (data := s16.2.2) (sz := 1) Tryd.underlying56 Tryd.sizeOf5 rfl rfl rfl c23) (by kernel_rfl) rfl fun a h => ?_
          refine a_two (i := 7) (j := 11) (by kernel_rfl) rfl rfl (R1.val h rfl (v_load1 rfl Tryd.isAgg5 hb hpj)) (R1.val h rfl (v_load1 rfl Tryd.isAgg5 hb hpi)) ?_ ?_
          · have h := h.put (d := 65) rfl (.int .u8 (gel s16.2.2 s16.2.1))
            refine a_one (i := 11) (by kernel_rfl) rfl (R1.val h rfl (v_load1 rfl Tryd.isAgg5 hb hpi)) rfl ?_
            have h := h.put (d := 69) rfl (.int .u8 (gel s16.2.2 s16.1))
            refine a_one (i := 12) (by kernel_rfl) rfl (R1.val h rfl (v_idxB (data := s16.2.2) (sz := 1) Tryd.underlying56 Tryd.sizeOf5 rfl rfl rfl c23)) rfl ?_
            have h := h.put (d := 70) rfl (.pointer (some ⟨bb, (Int.toNat s16.1), none⟩))
            obtain ⟨w1, hR1, hb1, a1, a2, a3, a4, a5⟩ := r_store1 (ops := _) (P := Tryd.prog) (x := .tmp 70) (y := .tmp 65) (off := (Int.toNat s16.1)) (u := .int .u8 (gel s16.2.2 s16.2.1)) h rfl rfl rfl rfl rfl Tryd.sizeOf5 hb hli
            refine a_one (i := 13) (by kernel_rfl) rfl hR1 rfl ?_
            refine a_one (i := 14) (by kernel_rfl) rfl (R1.val h rfl (v_idxB (data := s16.2.2) (sz := 1) Tryd.underlying56 Tryd.sizeOf5 rfl rfl rfl c24)) rfl ?_
            have h := h.put (d := 71) rfl (.pointer (some ⟨bb, (Int.toNat s16.2.1), none⟩))
            obtain ⟨w2, hR2, hb2, b1, b2, b3, b4, b5⟩ := r_store1 (ops := _) (P := Tryd.prog) (x := .tmp 71) (y := .tmp 69) (off := (Int.toNat s16.2.1)) (u := .int .u8 (gel s16.2.2 s16.1)) h rfl rfl rfl rfl rfl Tryd.sizeOf5 hb1 (by rw [List.length_set]; exact hlj)
            refine a_one (i := 15) (by kernel_rfl) rfl hR2 rfl ?_
            refine a_end (by kernel_rfl) ?_
            have H := H.setRow (i := 0) (k := .u8) (out := s16.2.2) (out' := zrow_25) rfl hb hb2 (by rw [ezrow_25]; simp) (by simp) (by rw [ezrow_25, List.take_set, List.take_set, hct, List.map_set, List.map_set]) (b1.trans a1) (b2.trans a2) (b3.trans a3) (b4.trans a4) (fun c hc => (b5 c hc).trans (a5 c hc))
            have h := h.only [4, 8, 9] (l' := [(4, _), (8, _), (9, _)]) rfl
            have H : HZ w0 _ _ [_] _ := H
            generalize w2 = w at h H
            refine hN22 _ _ ?_
            refine c_lregion ?_
            refine st1 h rfl rfl rfl (v_move rfl) fun a h => ?_
            obtain ⟨z55_26, ez55_26, hS⟩ := bv hS
            refine st1 h rfl rfl rfl (vI ez55_26 (v_addw rfl rfl)) fun a h => ?_
            refine st1 h rfl rfl rfl (v_move rfl) fun a h => ?_
            obtain ⟨z57_27, ez57_27, hS⟩ := bv hS
            refine st1 h rfl rfl rfl (vI ez57_27 (v_subw rfl rfl)) fun a h => ?_
            refine st1 h rfl rfl rfl (v_assign rfl) fun a h => ?_
            refine st1 h rfl rfl rfl (v_assign rfl) fun a h => ?_
            refine c_lnil ?_
            exact hN17 _ _ _ (Nat.lt_succ_self _) ⟨_, (z55_26, z57_27, zrow_25), _, lpN en16 hS, (h.only [4, 8, 9] (l' := [(4, _), (8, _), (9, _)]) rfl), H⟩
          · have h := h.put (d := 69) rfl (.int .u8 (gel s16.2.2 s16.1))
            refine a_one (i := 7) (by kernel_rfl) rfl (R1.val h rfl (v_load1 rfl Tryd.isAgg5 hb hpj)) rfl ?_
            have h := h.put (d := 65) rfl (.int .u8 (gel s16.2.2 s16.2.1))
            refine a_one (i := 12) (by kernel_rfl) rfl (R1.val h rfl (v_idxB (data := s16.2.2) (sz := 1) Tryd.underlying56 Tryd.sizeOf5 rfl rfl rfl c23)) rfl ?_
            have h := h.put (d := 70) rfl (.pointer (some ⟨bb, (Int.toNat s16.1), none⟩))
            obtain ⟨w1, hR1, hb1, a1, a2, a3, a4, a5⟩ := r_store1 (ops := _) (P := Tryd.prog) (x := .tmp 70) (y := .tmp 65) (off := (Int.toNat s16.1)) (u := .int .u8 (gel s16.2.2 s16.2.1)) h rfl rfl rfl rfl rfl Tryd.sizeOf5 hb hli
            refine a_one (i := 13) (by kernel_rfl) rfl hR1 rfl ?_
            refine a_one (i := 14) (by kernel_rfl) rfl (R1.val h rfl (v_idxB (data := s16.2.2) (sz := 1) Tryd.underlying56 Tryd.sizeOf5 rfl rfl rfl c24)) rfl ?_
            have h := h.put (d := 71) rfl (.pointer (some ⟨bb, (Int.toNat s16.2.1), none⟩))
            obtain ⟨w2, hR2, hb2, b1, b2, b3, b4, b5⟩ := r_store1 (ops := _) (P := Tryd.prog) (x := .tmp 71) (y := .tmp 69) (off := (Int.toNat s16.2.1)) (u := .int .u8 (gel s16.2.2 s16.1)) h rfl rfl rfl rfl rfl Tryd.sizeOf5 hb1 (by rw [List.length_set]; exact hlj)
            refine a_one (i := 15) (by kernel_rfl) rfl hR2 rfl ?_
            refine a_end (by kernel_rfl) ?_
            have H := H.setRow (i := 0) (k := .u8) (out := s16.2.2) (out' := zrow_25) rfl hb hb2 (by rw [ezrow_25]; simp) (by simp) (by rw [ezrow_25, List.take_set, List.take_set, hct, List.map_set, List.map_set]) (b1.trans a1) (b2.trans a2) (b3.trans a3) (b4.trans a4) (fun c hc => (b5 c hc).trans (a5 c hc))
            have h := h.only [4, 8, 9] (l' := [(4, _), (8, _), (9, _)]) rfl
            have H : HZ w0 _ _ [_] _ := H
            generalize w2 = w at h H
            refine hN22 _ _ ?_
            refine c_lregion ?_
            refine st1 h rfl rfl rfl (v_move rfl) fun a h => ?_
            obtain ⟨z55_28, ez55_28, hS⟩ := bv hS
            refine st1 h rfl rfl rfl (vI ez55_28 (v_addw rfl rfl)) fun a h => ?_
            refine st1 h rfl rfl rfl (v_move rfl) fun a h => ?_
            obtain ⟨z57_29, ez57_29, hS⟩ := bv hS
            refine st1 h rfl rfl rfl (vI ez57_29 (v_subw rfl rfl)) fun a h => ?_
            refine st1 h rfl rfl rfl (v_assign rfl) fun a h => ?_
            refine st1 h rfl rfl rfl (v_assign rfl) fun a h => ?_
            refine c_lnil ?_
            exact hN17 _ _ _ (Nat.lt_succ_self _) ⟨_, (z55_28, z57_29, zrow_25), _, lpN en16 hS, (h.only [4, 8, 9] (l' := [(4, _), (8, _), (9, _)]) rfl), H⟩
        · have hS := ifF ec21 hS
          refine c_exit ?_
          refine hx2_19 _ _ ?_
          exact hN9 _ _ ⟨_, s16.2.2, _, hS, (h.only [4] (l' := [(4, _)]) rfl), H⟩
    · have hret6 := hO6.ret hret0
      refine c_region fun K hK => ?_
      refine st1 h rfl rfl rfl (v_move rfl) fun a h => ?_
      obtain ⟨z44_30, ez44_30, hS⟩ := bv hS
      refine st1 h rfl rfl rfl (vB ez44_30 (v_lt rfl rfl)) fun a h => ?_
      refine c_nil hK ?_
      refine c_cond h rfl (fun ec31 => ?_) (fun ec31 => ?_)
      · have hS := ifT ec31 hS
        refine c_lregion ?_
        refine st1 h rfl rfl rfl (v_move rfl) fun a h => ?_
        refine z_slice (enc := (eI .u8)) ([45] : List (Int)) h H Tryd.underlying56 Tryd.sizeOf5 Tryd.zeroValue5 rfl (zl := [.int .u8 0]) (by kernel_rfl) (plA_get 1 1) [_] [_] rfl rfl rfl rfl rfl fun a v46_32 Z w hsub X H r46_32 h => ?_
        obtain ⟨c34, hS⟩ := ck hS
        obtain ⟨z47_35, ez47_35, hS⟩ := bv hS
        refine z_appendS (enc := (eI .u8)) (out := s4) (data := [45]) h H 0 rfl Tryd.underlying56 app5 rfl rfl rfl r46_32 (fun _ => rfl) (fun _ _ => rfl) c34 rfl fun a v47_33 w H h => ?_
        rw [← ez47_35] at H
        have H : HZ w0 _ _ [_] _ := H
        refine st1 h rfl rfl rfl (v_assign rfl) fun a h => ?_
        refine c_lnil ?_
        exact hN6 _ _ ⟨_, z47_35, _, hS, (h.only [4] (l' := [(4, _)]) rfl), H⟩
      · have hS := ifF ec31 hS
        refine c_skip ?_
        exact hN6 _ _ ⟨_, s4, _, hS, (h.only [4] (l' := [(4, _)]) rfl), H⟩
  · have hret3 := hO3.ret hret0
    refine c_region fun K hK => ?_
    refine st1 h rfl rfl rfl (v_assign rfl) fun a h => ?_
    refine c_nil hK ?_
    refine c_lblock fun Q36 hN36 hx0_36 hO36 => ?_
    have hret36 := hO36.ret hret3
    obtain ⟨B37, eB37, hS⟩ := bv hS
    refine c_loopN (fun mu_ a w => ∃ (Z : FZ) (s37 : Int × Bool × Int × (List (Int))) (sv39 : Value), loopF B37 mu_ s37 = some res ∧ Fr 74 [(0, .int .i64 x0), (3, .int .u64 s37.1), (4, sv39), (5, .bool s37.2.1), (6, .int .i64 s37.2.2.1)] a ∧ HZ w0 Zi Z [.row 5 1 sv39 (s37.2.2.2 : List (Int)).length ((s37.2.2.2 : List (Int)).flatMap (eI .u8))] w) KK ⟨_, (y11_1, true, 0, []), _, hS, (h.only [0, 3, 4, 5, 6] (l' := [(0, _), (3, _), (4, _), (5, _), (6, _)]) rfl), H⟩ ?_
    rintro mu_ a w ⟨Z, s37, sv39, hS, h, H⟩ Q38 hN38 hO38
    obtain ⟨mu_, rfl, n37, en37, hS⟩ := lpX eB37 hS
    have hret38 := hO38.ret hret36
    have hx0_38 := hO38.exit (i := 0) rfl hx0_36
    refine c_seq _ (fun a w c => c) fun Q40 hN40 hO40 => ?_
    have hret40 := hO40.ret hret38
    have hx0_40 := hO40.exit (i := 0) rfl hx0_38
    refine c_region fun K hK => ?_
    refine st1 h rfl rfl rfl (v_move rfl) fun a h => ?_
    obtain ⟨z14_41, ez14_41, hS⟩ := bv hS
    refine st1 h rfl rfl rfl (vB ez14_41 (v_lt rfl rfl)) fun a h => ?_
    refine st1 h rfl rfl rfl (v_move rfl) fun a h => ?_
    refine st_g h rfl rfl (gF rfl) rfl rfl (fun e0 => v_move rfl) fun a h => ?_
    obtain ⟨z17_42, ez17_42, hS⟩ := bv hS
    refine st_g h rfl rfl (gF rfl) rfl rfl (fun e0 => vB ez17_42 (v_gt (eg e0 rfl) rfl)) fun a h => ?_
    obtain ⟨z18_43, ez18_43, hS⟩ := bv hS
    refine st1 h rfl rfl rfl (vB ez18_43 (v_or rfl rfl)) fun a h => ?_
    refine c_nil hK ?_
    have h := h.only [0, 3, 4, 5, 6, 18] (l' := [(0, _), (3, _), (4, _), (5, _), (6, _), (18, _)]) rfl
    refine c_cond h rfl (fun ec44 => ?_) (fun ec44 => ?_)
    · have hS := ifT ec44 hS
      refine c_skip ?_
      refine hN40 _ _ ?_
      obtain ⟨J46, eJ46, hS⟩ := bv hS
      refine c_block (fun a w => ∃ (Z : FZ) (s46 : Int × Bool × (List (Int))) (sv47 : Value), J46 s46 = some res ∧ Fr 74 [(0, .int .i64 x0), (3, .int .u64 s46.1), (4, sv47), (5, .bool s46.2.1), (6, .int .i64 s37.2.2.1)] a ∧ HZ w0 Zi Z [.row 5 1 sv47 (s46.2.2 : List (Int)).length ((s46.2.2 : List (Int)).flatMap (eI .u8))] w) ?_ fun Q45 hN45 hx1_45 hO45 => ?_
      · rintro a w ⟨Z, s46, sv47, hS, h, H⟩
        subst eJ46
        refine c_lregion ?_
        refine st1 h rfl rfl rfl (v_move rfl) fun a h => ?_
        obtain ⟨z20_48, ez20_48, hS⟩ := bv hS
        refine st1 h rfl rfl rfl (vI ez20_48 (v_addw rfl rfl)) fun a h => ?_
        refine st1 h rfl rfl rfl (v_assign rfl) fun a h => ?_
        refine c_lnil ?_
        exact hN38 _ _ _ (Nat.lt_succ_self _) ⟨_, (s46.1, s46.2.1, z20_48, s46.2.2), _, lpN en37 hS, (h.only [0, 3, 4, 5, 6] (l' := [(0, _), (3, _), (4, _), (5, _), (6, _)]) rfl), H⟩
      · have hret45 := hO45.ret hret38
        have hx0_45 := hO45.exit (i := 0) rfl hx0_38
        obtain ⟨J50, eJ50, hS⟩ := bv hS
        refine c_seq (fun a w => ∃ (Z : FZ) (s50 : Bool × (List (Int))) (sv51 : Value), J50 s50 = some res ∧ Fr 74 [(0, .int .i64 x0), (3, .int .u64 s37.1), (4, sv51), (5, .bool s50.1), (6, .int .i64 s37.2.2.1)] a ∧ HZ w0 Zi Z [.row 5 1 sv51 (s50.2 : List (Int)).length ((s50.2 : List (Int)).flatMap (eI .u8))] w) ?_ fun Q49 hN49 hO49 => ?_
        · rintro a w ⟨Z, s50, sv51, hS, h, H⟩
          subst eJ50
          refine c_region fun K hK => ?_
          refine st1 h rfl rfl rfl (v_move rfl) fun a h => ?_
          obtain ⟨z29_52, ez29_52, hS⟩ := bv hS
          refine st1 h rfl rfl rfl (vI ez29_52 (v_rem rfl rfl (by decide))) fun a h => ?_
          obtain ⟨z30_53, ez30_53, hS⟩ := bv hS
          refine st1 h rfl rfl rfl (vI ez30_53 (v_convInt (by rw [Tryd.underlying51]; rfl) Tryd.underlying5 rfl rfl)) fun a h => ?_
          refine st1 h rfl rfl rfl (v_assign rfl) fun a h => ?_
          refine c_nil hK ?_
          refine c_region fun K hK => ?_
          refine st1 h rfl rfl rfl (v_move rfl) fun a h => ?_
          obtain ⟨z32_54, ez32_54, hS⟩ := bv hS
          refine st1 h rfl rfl rfl (vI ez32_54 (v_quow rfl rfl (by decide))) fun a h => ?_
          refine st1 h rfl rfl rfl (v_assign rfl) fun a h => ?_
          refine c_nil hK ?_
          have h := h.only [0, 3, 4, 5, 6, 7] (l' := [(0, _), (3, _), (4, _), (5, _), (6, _), (7, _)]) rfl
          refine c_seq _ (fun a w c => c) fun Q55 hN55 hO55 => ?_
          have hret55 := hO55.ret hret45
          have hx0_55 := hO55.exit (i := 0) rfl hx0_45
          have hx1_55 := hO55.exit (i := 1) rfl hx1_45
          refine c_region fun K hK => ?_
          refine st1 h rfl rfl rfl (v_move rfl) fun a h => ?_
          refine st1 h rfl rfl rfl (v_move rfl) fun a h => ?_
          refine st_g h rfl rfl (gT rfl) rfl rfl (fun e0 => v_move rfl) fun a h => ?_
          obtain ⟨z36_56, ez36_56, hS⟩ := bv hS
          refine st_g h rfl rfl (gT rfl) rfl rfl (fun e0 => vB ez36_56 (v_eq (eg e0 rfl) rfl)) fun a h => ?_
          obtain ⟨z37_57, ez37_57, hS⟩ := bv hS
          refine st1 h rfl rfl rfl (vB ez37_57 (v_and rfl rfl)) fun a h => ?_
          refine c_nil hK ?_
          have h := h.only [0, 3, 4, 5, 6, 7, 37] (l' := [(0, _), (3, _), (4, _), (5, _), (6, _), (7, _), (37, _)]) rfl
          refine c_cond h rfl (fun ec58 => ?_) (fun ec58 => ?_)
          · have hS := ifT ec58 hS
            refine c_exit ?_
            exact hx1_55 _ _ ⟨_, (z32_54, s50.1, s50.2), _, hS, (h.only [0, 3, 4, 5, 6] (l' := [(0, _), (3, _), (4, _), (5, _), (6, _)]) rfl), H⟩
          · have hS := ifF ec58 hS
            refine c_skip ?_
            refine hN55 _ _ ?_
            refine c_region fun K hK => ?_
            refine st1 h rfl rfl rfl (v_assign rfl) fun a h => ?_
            refine c_nil hK ?_
            refine c_lregion ?_
            refine st1 h rfl rfl rfl (v_move rfl) fun a h => ?_
            refine st1 h rfl rfl rfl (v_move rfl) fun a h => ?_
            obtain ⟨z40_59, ez40_59, hS⟩ := bv hS
            refine st1 h rfl rfl rfl (vI ez40_59 (v_addw rfl rfl)) fun a h => ?_
            refine z_slice (enc := (eI .u8)) ([z40_59] : List (Int)) h H Tryd.underlying56 Tryd.sizeOf5 Tryd.zeroValue5 rfl (zl := [.int .u8 0]) (by kernel_rfl) (plA_get 1 1) [_] [_] rfl rfl rfl rfl rfl fun a v41_60 Z w hsub X H r41_60 h => ?_
            obtain ⟨c62, hS⟩ := ck hS
            obtain ⟨z42_63, ez42_63, hS⟩ := bv hS
            refine z_appendS (enc := (eI .u8)) (out := s50.2) (data := [z40_59]) h H 0 rfl Tryd.underlying56 app5 rfl rfl rfl r41_60 (fun _ => rfl) (fun _ _ => rfl) c62 rfl fun a v42_61 w H h => ?_
            rw [← ez42_63] at H
            have H : HZ w0 _ _ [_] _ := H
            refine st1 h rfl rfl rfl (v_assign rfl) fun a h => ?_
            refine c_lnil ?_
            exact hN45 _ _ ⟨_, (z32_54, false, z42_63), _, hS, (h.only [0, 3, 4, 5, 6] (l' := [(0, _), (3, _), (4, _), (5, _), (6, _)]) rfl), H⟩
        · have hret49 := hO49.ret hret45
          have hx0_49 := hO49.exit (i := 0) rfl hx0_45
          have hx1_49 := hO49.exit (i := 1) rfl hx1_45
          refine c_region fun K hK => ?_
          refine st1 h rfl rfl rfl (v_move rfl) fun a h => ?_
          obtain ⟨z22_64, ez22_64, hS⟩ := bv hS
          refine st1 h rfl rfl rfl (vB ez22_64 (v_eq rfl rfl)) fun a h => ?_
          refine c_nil hK ?_
          refine c_cond h rfl (fun ec65 => ?_) (fun ec65 => ?_)
          · have hS := ifT ec65 hS
            refine c_seq _ (fun a w c => c) fun Q66 hN66 hO66 => ?_
            have hret66 := hO66.ret hret49
            have hx0_66 := hO66.exit (i := 0) rfl hx0_49
            have hx1_66 := hO66.exit (i := 1) rfl hx1_49
            refine c_region fun K hK => ?_
            refine st1 h rfl rfl rfl (v_move rfl) fun a h => ?_
            obtain ⟨z24_67, ez24_67, hS⟩ := bv hS
            refine st1 h rfl rfl rfl (vB ez24_67 (v_not rfl)) fun a h => ?_
            refine c_nil hK ?_
            have h := h.only [0, 3, 4, 6, 24] (l' := [(0, _), (3, _), (4, _), (6, _), (24, _)]) rfl
            refine c_cond h rfl (fun ec68 => ?_) (fun ec68 => ?_)
            · have hS := ifT ec68 hS
              refine c_lregion ?_
              refine st1 h rfl rfl rfl (v_move rfl) fun a h => ?_
              refine z_slice (enc := (eI .u8)) ([46] : List (Int)) h H Tryd.underlying56 Tryd.sizeOf5 Tryd.zeroValue5 rfl (zl := [.int .u8 0]) (by kernel_rfl) (plA_get 1 1) [_] [_] rfl rfl rfl rfl rfl fun a v26_69 Z w hsub X H r26_69 h => ?_
              obtain ⟨c71, hS⟩ := ck hS
              obtain ⟨z27_72, ez27_72, hS⟩ := bv hS
              refine z_appendS (enc := (eI .u8)) (out := s37.2.2.2) (data := [46]) h H 0 rfl Tryd.underlying56 app5 rfl rfl rfl r26_69 (fun _ => rfl) (fun _ _ => rfl) c71 rfl fun a v27_70 w H h => ?_
              rw [← ez27_72] at H
              have H : HZ w0 _ _ [_] _ := H
              refine st1 h rfl rfl rfl (v_assign rfl) fun a h => ?_
              refine c_lnil ?_
              refine hN66 _ _ ?_
              have h := h.only [0, 3, 4, 6] (l' := [(0, _), (3, _), (4, _), (6, _)]) rfl
              refine c_lregion ?_
              refine st1 h rfl rfl rfl (v_assign rfl) fun a h => ?_
              refine c_lnil ?_
              exact hN49 _ _ ⟨_, (false, z27_72), _, hS, (h.only [0, 3, 4, 5, 6] (l' := [(0, _), (3, _), (4, _), (5, _), (6, _)]) rfl), H⟩
            · have hS := ifF ec68 hS
              refine c_skip ?_
              refine hN66 _ _ ?_
              refine c_lregion ?_
              refine st1 h rfl rfl rfl (v_assign rfl) fun a h => ?_
              refine c_lnil ?_
              exact hN49 _ _ ⟨_, (false, s37.2.2.2), _, hS, (h.only [0, 3, 4, 5, 6] (l' := [(0, _), (3, _), (4, _), (5, _), (6, _)]) rfl), H⟩
          · have hS := ifF ec65 hS
            refine c_skip ?_
            exact hN49 _ _ ⟨_, (s37.2.1, s37.2.2.2), _, hS, (h.only [0, 3, 4, 5, 6] (l' := [(0, _), (3, _), (4, _), (5, _), (6, _)]) rfl), H⟩
    · have hS := ifF ec44 hS
      refine c_exit ?_
      refine hx0_40 _ _ ?_
      exact hN3 _ _ ⟨_, s37.2.2.2, _, hS, (h.only [0, 4] (l' := [(0, _), (4, _)]) rfl), H⟩

theorem value_Show_ok {x0 : V} {res : (List UInt8)} {w0 : World} (hS : value_Show x0 = some res) (hG : GW w0) : Calls Tryd.prog 12 [.agg #[.int .i64 x0.k, .int .i64 x0.n, S x0.s]].toArray w0 (Ret fun v w => v = S res ∧ Ext w0 w) := by
  refine enter Tryd.func12 rfl rfl rfl fun Q a h hret0 hnor => ?_
  obtain ⟨Zi, Z, H⟩ : ∃ Zi Z, HZ w0 Zi Z [] w0 := ⟨_, _, HZ.start w0⟩
  have h := h.only [0] (l' := [(0, _)]) rfl
  unfold value_Show at hS
  refine c_region fun K hK => ?_
  refine z_box h H rfl [_, _, _] rfl rfl fun a p1_1 w X H h => ?_
  have H : HZ w0 _ _ [_] _ := H
  refine st1 h rfl rfl rfl (v_assign rfl) fun a h => ?_
  refine c_nil hK ?_
  refine c_seq _ (fun a w c => c) fun Q2 hN2 hO2 => ?_
  have hret2 := hO2.ret hret0
  refine c_region fun K hK => ?_
  refine st1 h rfl rfl rfl (v_fieldAddr rfl Tryd.underlying23 rfl Tryd.sizeOf3 rfl rfl) fun a h => ?_
  refine st1 h rfl rfl rfl (v_load1 rfl Tryd.isAgg3 (H.hp.get 0 rfl) rfl) fun a h => ?_
  refine c_nil hK ?_
  refine c_lblock fun Q3 hN3 hx0_3 hO3 => ?_
  have hret3 := hO3.ret hret2
  refine c_region fun K hK => ?_
  obtain ⟨z6_4, ez6_4, hS⟩ := bv hS
  refine st1 h rfl rfl rfl (vB ez6_4 (v_eq rfl rfl)) fun a h => ?_
  refine st1 h rfl rfl rfl (v_assign rfl) fun a h => ?_
  refine c_nil hK ?_
  have h := h.only [1, 4, 5] (l' := [(1, _), (4, _), (5, _)]) rfl
  refine c_cond h rfl (fun ec5 => ?_) (fun ec5 => ?_)
  · have hS := ifT ec5 hS
    refine c_region fun K hK => ?_
    refine st1 h rfl rfl rfl (v_fieldAddr rfl Tryd.underlying23 rfl Tryd.sizeOf2 rfl rfl) fun a h => ?_
    refine st1 h rfl rfl rfl (v_load1 rfl Tryd.isAgg2 (H.hp.get 0 rfl) rfl) fun a h => ?_
    obtain ⟨y9_6, hy9_6, hS⟩ := bo hS
    refine st2v (T := Ext) (V := S y9_6) h rfl rfl rfl (d_call [_] rfl Tryd.call22 (num_Print_ok (x0 := x0.n) hy9_6)) fun w X a h => ?_
    have H := H.ext X
    refine st1 h rfl rfl rfl (v_assign rfl) fun a h => ?_
    refine c_nil hK ?_
    have h := h.only [2] (l' := [(2, _)]) rfl
    obtain rfl := so hS
    refine c_ret (hret3 _ _ (out1 h rfl rfl ?_))
    exact ⟨rfl, H.out⟩
  · have hS := ifF ec5 hS
    refine c_region fun K hK => ?_
    obtain ⟨z11_7, ez11_7, hS⟩ := bv hS
    refine st1 h rfl rfl rfl (vB ez11_7 (v_eq rfl rfl)) fun a h => ?_
    refine st1 h rfl rfl rfl (v_assign rfl) fun a h => ?_
    refine c_nil hK ?_
    refine c_cond h rfl (fun ec8 => ?_) (fun ec8 => ?_)
    · have hS := ifT ec8 hS
      refine c_region fun K hK => ?_
      refine st1 h rfl rfl rfl (v_fieldAddr rfl Tryd.underlying23 rfl Tryd.sizeOf9 rfl rfl) fun a h => ?_
      refine st1 h rfl rfl rfl (v_load1 rfl Tryd.isAgg9 (H.hp.get 0 rfl) rfl) fun a h => ?_
      refine st1 h rfl rfl rfl (v_assign rfl) fun a h => ?_
      refine c_nil hK ?_
      have h := h.only [2] (l' := [(2, _)]) rfl
      obtain rfl := so hS
      refine c_ret (hret3 _ _ (out1 h rfl rfl ?_))
      exact ⟨rfl, H.out⟩
    · have hS := ifF ec8 hS
      refine c_region fun K hK => ?_
      obtain ⟨z15_9, ez15_9, hS⟩ := bv hS
      refine st1 h rfl rfl rfl (vB ez15_9 (v_eq rfl rfl)) fun a h => ?_
      refine st1 h rfl rfl rfl (v_assign rfl) fun a h => ?_
      refine c_nil hK ?_
      have h := h.only [1, 4, 14] (l' := [(1, _), (4, _), (14, _)]) rfl
      refine c_cond h rfl (fun ec10 => ?_) (fun ec10 => ?_)
      · have hS := ifT ec10 hS
        refine c_seq _ (fun a w c => c) fun Q11 hN11 hO11 => ?_
        have hret11 := hO11.ret hret3
        have hx0_11 := hO11.exit (i := 0) rfl hx0_3
        refine c_region fun K hK => ?_
        refine st1 h rfl rfl rfl (v_fieldAddr rfl Tryd.underlying23 rfl Tryd.sizeOf2 rfl rfl) fun a h => ?_
        refine st1 h rfl rfl rfl (v_load1 rfl Tryd.isAgg2 (H.hp.get 0 rfl) rfl) fun a h => ?_
        obtain ⟨z18_12, ez18_12, hS⟩ := bv hS
        refine st1 h rfl rfl rfl (vB ez18_12 (v_eq rfl rfl)) fun a h => ?_
        refine c_nil hK ?_
        have h := h.only [18] (l' := [(18, _)]) rfl
        refine c_cond h rfl (fun ec13 => ?_) (fun ec13 => ?_)
        · have hS := ifT ec13 hS
          refine c_region fun K hK => ?_
          refine st1 h rfl rfl rfl (v_assign rfl) fun a h => ?_
          refine c_nil hK ?_
          obtain rfl := so hS
          refine c_ret (hret11 _ _ (out1 h rfl rfl ?_))
          exact ⟨rfl, H.out⟩
        · have hS := ifF ec13 hS
          refine c_skip ?_
          refine hN11 _ _ ?_
          refine c_region fun K hK => ?_
          refine st1 h rfl rfl rfl (v_assign rfl) fun a h => ?_
          refine c_nil hK ?_
          obtain rfl := so hS
          refine c_ret (hret3 _ _ (out1 h rfl rfl ?_))
          exact ⟨rfl, H.out⟩
      · have hS := ifF ec10 hS
        refine c_region fun K hK => ?_
        obtain ⟨z20_14, ez20_14, hS⟩ := bv hS
        refine st1 h rfl rfl rfl (vB ez20_14 (v_eq rfl rfl)) fun a h => ?_
        refine st1 h rfl rfl rfl (v_assign rfl) fun a h => ?_
        refine c_nil hK ?_
        refine c_cond h rfl (fun ec15 => ?_) (fun ec15 => ?_)
        · have hS := ifT ec15 hS
          refine c_region fun K hK => ?_
          refine st1 h rfl rfl rfl (v_fieldAddr rfl Tryd.underlying23 rfl Tryd.sizeOf2 rfl rfl) fun a h => ?_
          refine st1 h rfl rfl rfl (v_load1 rfl Tryd.isAgg2 (H.hp.get 0 rfl) rfl) fun a h => ?_
          obtain ⟨y23_16, hy23_16, hS⟩ := bo hS
          refine st2v (T := Ext) (V := S y23_16) h rfl rfl rfl (d_call [_] rfl Tryd.call27 (value_ErrorName_ok (x0 := x0.n) hy23_16 (hG.ext H.out))) fun w X a h => ?_
          have H := H.ext X
          refine st1 h rfl rfl rfl (v_assign rfl) fun a h => ?_
          refine c_nil hK ?_
          have h := h.only [2] (l' := [(2, _)]) rfl
          obtain rfl := so hS
          refine c_ret (hret3 _ _ (out1 h rfl rfl ?_))
          exact ⟨rfl, H.out⟩
        · have hS := ifF ec15 hS
          refine c_skip ?_
          refine hN3 _ _ ?_
          refine hN2 _ _ ?_
          have h := h.only [] (l' := []) rfl
          refine c_region fun K hK => ?_
          refine st1 h rfl rfl rfl (v_assign rfl) fun a h => ?_
          refine c_nil hK ?_
          obtain rfl := so hS
          refine c_ret (hret0 _ _ (out1 h rfl rfl ?_))
          exact ⟨rfl, H.out⟩
end Go.Proofs.YtmfblggkgmgccaaDoor
