/- Walks: the code computes what the partial functions say. -/
import Derived.Test.YtnmkeanoidadcaaGreatDoorSpC
import Derived.Test.YtnmkeanoidadcaaGreatDoorWkB
set_option linter.unusedSimpArgs false
set_option linter.unusedVariables false
set_option linter.unusedSectionVars false
namespace Go.Proofs.YtnmkeanoidadcaaGreatDoor
open Go.Stp Go.RowKit Go.ValP Go.Sp
set_option maxRecDepth 100000
theorem bits_Div64_ok {x0 : Int} {x1 : Int} {x2 : Int} {res : Int × Int} {w0 : World} (hS : bits_Div64 x0 x1 x2 = some res) : Calls Tryz.prog 107 [.int .u64 x0, .int .u64 x1, .int .u64 x2].toArray w0 (Ret fun v w => v = .tuple #[.int .u64 res.1, .int .u64 res.2] ∧ Ext w0 w) := by
 refine enter Tryz.func107 rfl rfl rfl fun Q a h hret0 hnor => ?_
 obtain ⟨Zi, Z, H⟩ : ∃ Zi Z, HZ w0 Zi Z [] w0 := ⟨_, _, HZ.start w0⟩
 have h := h.only [0, 1, 2] (l' := [_, _, _]) rfl
 unfold bits_Div64 at hS
 refine c_region fun K hK => ?_
 refine st1 h rfl rfl rfl (v_assign rfl) fun a h => ?_
 refine st1 h rfl rfl rfl (v_assign rfl) fun a h => ?_
 refine c_nil hK ?_
 obtain ⟨J2, eJ2, hS⟩ := bv hS
 refine c_seq (fun a w => ∃ (Z : FZ) (s2 : Unit), J2 s2 = some res ∧ Fr 135 [(0, .int .u64 x0), (1, .int .u64 x1), (2, .int .u64 x2)] a ∧ HZ w0 Zi Z [] w) ?_ fun Q1 hN1 hO1 => ?_
 ·
  rintro a w ⟨Z, s2, hS, h, H⟩
  subst eJ2
  obtain ⟨J4, eJ4, hS⟩ := bv hS
  refine c_seq (fun a w => ∃ (Z : FZ) (s4 : Unit), J4 s4 = some res ∧ Fr 135 [(0, .int .u64 x0), (1, .int .u64 x1), (2, .int .u64 x2)] a ∧ HZ w0 Zi Z [] w) ?_ fun Q3 hN3 hO3 => ?_
  ·
   rintro a w ⟨Z, s4, hS, h, H⟩
   subst eJ4
   refine c_seq _ (fun a w c => c) fun Q5 hN5 hO5 => ?_
   have hret5 := hO5.ret hret0
   refine c_region fun K hK => ?_
   refine st1 h rfl rfl rfl (v_move rfl) fun a h => ?_
   obtain ⟨z27_6, ez27_6, hS⟩ := bv hS
   refine st1 h rfl rfl rfl (vB ez27_6 (v_eq rfl rfl)) fun a h => ?_
   refine c_nil hK ?_
   refine c_cond h rfl (fun ec7 => ?_) (fun ec7 => ?_)
   ·
    have hS := ifT ec7 hS
    refine c_flow h (by kernel_rfl) (by kernel_rfl) ?_
    refine f1 [1] rfl rfl rfl rfl (fun w X => v_move rfl) ?_
    refine f1 [2] rfl rfl rfl rfl (fun w X => v_move rfl) ?_
    obtain ⟨c8, hS⟩ := ck hS
    obtain ⟨z30_9, ez30_9, hS⟩ := bv hS
    refine f1 [28, 29] rfl rfl rfl rfl (fun w X => vI ez30_9 (v_quow rfl rfl c8)) ?_
    refine f1 [1] rfl rfl rfl rfl (fun w X => v_move rfl) ?_
    refine f1 [2] rfl rfl rfl rfl (fun w X => v_move rfl) ?_
    obtain ⟨c10, hS⟩ := ck hS
    obtain ⟨z33_11, ez33_11, hS⟩ := bv hS
    refine f1 [31, 32] rfl rfl rfl rfl (fun w X => vI ez33_11 (v_rem rfl rfl c10)) ?_
    refine f1 [30] rfl rfl rfl rfl (fun w X => v_assign rfl) ?_
    refine f1 [33] rfl rfl rfl rfl (fun w X => v_assign rfl) ?_
    refine fn_ ?_
    intro a w X hR hA
    have h := hR.out [6, 7]
    have h : Fr 135 [(7, _), (6, _)] a := h
    have H := H.ext X
    obtain rfl := so hS
    refine c_ret (hret5 _ _ (out2 h rfl rfl rfl ?_))
    exact ⟨rfl, H.out⟩
   ·
    have hS := ifF ec7 hS
    refine c_skip ?_
    refine hN5 _ _ ?_
    refine c_region fun K hK => ?_
    refine st1 h rfl rfl rfl (v_move rfl) fun a h => ?_
    obtain ⟨c13, hS⟩ := ck hS
    obtain ⟨z35_14, ez35_14, hS⟩ := bv hS
    refine st2v (T := Ext) (V := .int .i64 z35_14) h rfl rfl rfl ((by rw [ez35_14]; exact d_call [_] rfl Tryz.call118 (lib_lz64 c13))) fun w X a h => ?_
    have H := H.ext X
    obtain ⟨z36_15, ez36_15, hS⟩ := bv hS
    refine st1 h rfl rfl rfl (vI ez36_15 (v_convInt (by rw [Tryz.underlying3]; rfl) Tryz.underlying100 rfl rfl)) fun a h => ?_
    refine st1 h rfl rfl rfl (v_assign rfl) fun a h => ?_
    refine c_nil hK ?_
    have h := h.only [0, 1, 2, 8] (l' := [_, _, _, _]) rfl
    refine c_region fun K hK => ?_
    refine st1 h rfl rfl rfl (v_move rfl) fun a h => ?_
    refine st1 h rfl rfl rfl (v_move rfl) fun a h => ?_
    obtain ⟨c16, hS⟩ := ck hS
    obtain ⟨z39_17, ez39_17, hS⟩ := bv hS
    refine st1 h rfl rfl rfl (vI ez39_17 (v_shl rfl rfl c16)) fun a h => ?_
    refine st1 h rfl rfl rfl (v_assign rfl) fun a h => ?_
    refine c_nil hK ?_
    refine c_region fun K hK => ?_
    refine st1 h rfl rfl rfl (v_move rfl) fun a h => ?_
    obtain ⟨c18, hS⟩ := ck hS
    obtain ⟨z41_19, ez41_19, hS⟩ := bv hS
    refine st1 h rfl rfl rfl (vI ez41_19 (v_shr rfl rfl c18)) fun a h => ?_
    refine st1 h rfl rfl rfl (v_assign rfl) fun a h => ?_
    refine c_nil hK ?_
    have h := h.only [0, 1, 2, 8, 9] (l' := [_, _, _, _, _]) rfl
    refine c_region fun K hK => ?_
    refine st1 h rfl rfl rfl (v_move rfl) fun a h => ?_
    obtain ⟨z43_20, ez43_20, hS⟩ := bv hS
    refine st1 h rfl rfl rfl (vI ez43_20 (v_bits_and rfl rfl)) fun a h => ?_
    refine st1 h rfl rfl rfl (v_assign rfl) fun a h => ?_
    refine c_nil hK ?_
    refine c_region fun K hK => ?_
    refine st1 h rfl rfl rfl (v_move rfl) fun a h => ?_
    refine st1 h rfl rfl rfl (v_move rfl) fun a h => ?_
    obtain ⟨c21, hS⟩ := ck hS
    obtain ⟨z46_22, ez46_22, hS⟩ := bv hS
    refine st1 h rfl rfl rfl (vI ez46_22 (v_shl rfl rfl c21)) fun a h => ?_
    refine st1 h rfl rfl rfl (v_move rfl) fun a h => ?_
    refine st1 h rfl rfl rfl (v_move rfl) fun a h => ?_
    obtain ⟨z49_23, ez49_23, hS⟩ := bv hS
    refine st1 h rfl rfl rfl (vI ez49_23 (v_subw rfl rfl)) fun a h => ?_
    obtain ⟨c24, hS⟩ := ck hS
    obtain ⟨z50_25, ez50_25, hS⟩ := bv hS
    refine st1 h rfl rfl rfl (vI ez50_25 (v_shr rfl rfl c24)) fun a h => ?_
    obtain ⟨z51_26, ez51_26, hS⟩ := bv hS
    refine st1 h rfl rfl rfl (vI ez51_26 (v_bits_or rfl rfl)) fun a h => ?_
    refine st1 h rfl rfl rfl (v_assign rfl) fun a h => ?_
    refine c_nil hK ?_
    have h := h.only [1, 2, 8, 9, 10, 11] (l' := [_, _, _, _, _, _]) rfl
    refine c_region fun K hK => ?_
    refine st1 h rfl rfl rfl (v_move rfl) fun a h => ?_
    refine st1 h rfl rfl rfl (v_move rfl) fun a h => ?_
    obtain ⟨c27, hS⟩ := ck hS
    obtain ⟨z54_28, ez54_28, hS⟩ := bv hS
    refine st1 h rfl rfl rfl (vI ez54_28 (v_shl rfl rfl c27)) fun a h => ?_
    refine st1 h rfl rfl rfl (v_assign rfl) fun a h => ?_
    refine c_nil hK ?_
    have h := h.only [2, 8, 9, 10, 11, 12] (l' := [_, _, _, _, _, _]) rfl
    refine c_region fun K hK => ?_
    refine st1 h rfl rfl rfl (v_move rfl) fun a h => ?_
    obtain ⟨c29, hS⟩ := ck hS
    obtain ⟨z56_30, ez56_30, hS⟩ := bv hS
    refine st1 h rfl rfl rfl (vI ez56_30 (v_shr rfl rfl c29)) fun a h => ?_
    refine st1 h rfl rfl rfl (v_assign rfl) fun a h => ?_
    refine c_nil hK ?_
    refine c_region fun K hK => ?_
    refine st1 h rfl rfl rfl (v_move rfl) fun a h => ?_
    obtain ⟨z58_31, ez58_31, hS⟩ := bv hS
    refine st1 h rfl rfl rfl (vI ez58_31 (v_bits_and rfl rfl)) fun a h => ?_
    refine st1 h rfl rfl rfl (v_assign rfl) fun a h => ?_
    refine c_nil hK ?_
    have h := h.only [2, 8, 9, 10, 11, 13, 14] (l' := [_, _, _, _, _, _, _]) rfl
    refine c_region fun K hK => ?_
    refine st1 h rfl rfl rfl (v_move rfl) fun a h => ?_
    refine st1 h rfl rfl rfl (v_move rfl) fun a h => ?_
    obtain ⟨c32, hS⟩ := ck hS
    obtain ⟨z61_33, ez61_33, hS⟩ := bv hS
    refine st1 h rfl rfl rfl (vI ez61_33 (v_quow rfl rfl c32)) fun a h => ?_
    refine st1 h rfl rfl rfl (v_assign rfl) fun a h => ?_
    refine c_nil hK ?_
    refine c_region fun K hK => ?_
    refine st1 h rfl rfl rfl (v_move rfl) fun a h => ?_
    refine st1 h rfl rfl rfl (v_move rfl) fun a h => ?_
    refine st1 h rfl rfl rfl (v_move rfl) fun a h => ?_
    obtain ⟨z65_34, ez65_34, hS⟩ := bv hS
    refine st1 h rfl rfl rfl (vI ez65_34 (v_mulw rfl rfl)) fun a h => ?_
    obtain ⟨z66_35, ez66_35, hS⟩ := bv hS
    refine st1 h rfl rfl rfl (vI ez66_35 (v_subw rfl rfl)) fun a h => ?_
    refine st1 h rfl rfl rfl (v_assign rfl) fun a h => ?_
    refine c_nil hK ?_
    have h := h.only [2, 8, 9, 10, 11, 13, 14, 15, 16] (l' := [_, _, _, _, _, _, _, _, _]) rfl
    obtain ⟨J37, eJ37, hS⟩ := bv hS
    refine c_block (fun a w => ∃ (Z : FZ) (s37 : Int), J37 s37 = some res ∧ Fr 135 [(2, .int .u64 z39_17), (8, .int .u64 z36_15), (9, .int .u64 z41_19), (10, .int .u64 z43_20), (11, .int .u64 z51_26), (13, .int .u64 z56_30), (14, .int .u64 z58_31), (15, .int .u64 s37)] a ∧ HZ w0 Zi Z [] w) ?_ fun Q36 hN36 hx0_36 hO36 => ?_
    ·
     rintro a w ⟨Z, s37, hS, h, H⟩
     subst eJ37
     refine c_region fun K hK => ?_
     refine st1 h rfl rfl rfl (v_move rfl) fun a h => ?_
     obtain ⟨z87_38, ez87_38, hS⟩ := bv hS
     refine st1 h rfl rfl rfl (vI ez87_38 (v_mulw rfl rfl)) fun a h => ?_
     refine st1 h rfl rfl rfl (v_move rfl) fun a h => ?_
     obtain ⟨z89_39, ez89_39, hS⟩ := bv hS
     refine st1 h rfl rfl rfl (vI ez89_39 (v_addw rfl rfl)) fun a h => ?_
     refine st1 h rfl rfl rfl (v_move rfl) fun a h => ?_
     refine st1 h rfl rfl rfl (v_move rfl) fun a h => ?_
     obtain ⟨z92_40, ez92_40, hS⟩ := bv hS
     refine st1 h rfl rfl rfl (vI ez92_40 (v_mulw rfl rfl)) fun a h => ?_
     obtain ⟨z93_41, ez93_41, hS⟩ := bv hS
     refine st1 h rfl rfl rfl (vI ez93_41 (v_subw rfl rfl)) fun a h => ?_
     refine st1 h rfl rfl rfl (v_assign rfl) fun a h => ?_
     refine c_nil hK ?_
     have h := h.only [2, 8, 9, 10, 14, 15, 17] (l' := [_, _, _, _, _, _, _]) rfl
     refine c_region fun K hK => ?_
     refine st1 h rfl rfl rfl (v_move rfl) fun a h => ?_
     refine st1 h rfl rfl rfl (v_move rfl) fun a h => ?_
     obtain ⟨c42, hS⟩ := ck hS
     obtain ⟨z96_43, ez96_43, hS⟩ := bv hS
     refine st1 h rfl rfl rfl (vI ez96_43 (v_quow rfl rfl c42)) fun a h => ?_
     refine st1 h rfl rfl rfl (v_assign rfl) fun a h => ?_
     refine c_nil hK ?_
     refine c_region fun K hK => ?_
     refine st1 h rfl rfl rfl (v_move rfl) fun a h => ?_
     refine st1 h rfl rfl rfl (v_move rfl) fun a h => ?_
     refine st1 h rfl rfl rfl (v_move rfl) fun a h => ?_
     obtain ⟨z100_44, ez100_44, hS⟩ := bv hS
     refine st1 h rfl rfl rfl (vI ez100_44 (v_mulw rfl rfl)) fun a h => ?_
     obtain ⟨z101_45, ez101_45, hS⟩ := bv hS
     refine st1 h rfl rfl rfl (vI ez101_45 (v_subw rfl rfl)) fun a h => ?_
     refine st1 h rfl rfl rfl (v_assign rfl) fun a h => ?_
     refine c_nil hK ?_
     have h := h.only [2, 8, 9, 10, 14, 15, 16, 17, 18] (l' := [_, _, _, _, _, _, _, _, _]) rfl
     obtain ⟨J47, eJ47, hS⟩ := bv hS
     refine c_block (fun a w => ∃ (Z : FZ) (s47 : Int), J47 s47 = some res ∧ Fr 135 [(2, .int .u64 z39_17), (8, .int .u64 z36_15), (14, .int .u64 z58_31), (15, .int .u64 s37), (17, .int .u64 z93_41), (18, .int .u64 s47)] a ∧ HZ w0 Zi Z [] w) ?_ fun Q46 hN46 hx2_46 hO46 => ?_
     ·
      rintro a w ⟨Z, s47, hS, h, H⟩
      subst eJ47
      refine c_region fun K hK => ?_
      refine st1 h rfl rfl rfl (v_move rfl) fun a h => ?_
      obtain ⟨z122_48, ez122_48, hS⟩ := bv hS
      refine st1 h rfl rfl rfl (vI ez122_48 (v_mulw rfl rfl)) fun a h => ?_
      refine st1 h rfl rfl rfl (v_move rfl) fun a h => ?_
      obtain ⟨z124_49, ez124_49, hS⟩ := bv hS
      refine st1 h rfl rfl rfl (vI ez124_49 (v_addw rfl rfl)) fun a h => ?_
      refine st1 h rfl rfl rfl (v_move rfl) fun a h => ?_
      obtain ⟨z126_50, ez126_50, hS⟩ := bv hS
      refine st1 h rfl rfl rfl (vI ez126_50 (v_mulw rfl rfl)) fun a h => ?_
      refine st1 h rfl rfl rfl (v_move rfl) fun a h => ?_
      obtain ⟨z128_51, ez128_51, hS⟩ := bv hS
      refine st1 h rfl rfl rfl (vI ez128_51 (v_addw rfl rfl)) fun a h => ?_
      refine st1 h rfl rfl rfl (v_move rfl) fun a h => ?_
      refine st1 h rfl rfl rfl (v_move rfl) fun a h => ?_
      obtain ⟨z131_52, ez131_52, hS⟩ := bv hS
      refine st1 h rfl rfl rfl (vI ez131_52 (v_mulw rfl rfl)) fun a h => ?_
      obtain ⟨z132_53, ez132_53, hS⟩ := bv hS
      refine st1 h rfl rfl rfl (vI ez132_53 (v_subw rfl rfl)) fun a h => ?_
      refine st1 h rfl rfl rfl (v_move rfl) fun a h => ?_
      obtain ⟨c54, hS⟩ := ck hS
      obtain ⟨z134_55, ez134_55, hS⟩ := bv hS
      refine st1 h rfl rfl rfl (vI ez134_55 (v_shr rfl rfl c54)) fun a h => ?_
      refine st1 h rfl rfl rfl (v_assign rfl) fun a h => ?_
      refine st1 h rfl rfl rfl (v_assign rfl) fun a h => ?_
      refine c_nil hK ?_
      have h := h.only [6, 7] (l' := [_, _]) rfl
      obtain rfl := so hS
      refine c_ret (hret0 _ _ (out2 h rfl rfl rfl ?_))
      exact ⟨rfl, H.out⟩
     ·
      have hret46 := hO46.ret hret0
      obtain ⟨B56, eB56, hS⟩ := bv hS
      refine c_loopN (fun mu_ a w => ∃ (Z : FZ) (s56 : Int × Int), loopF B56 mu_ s56 = some res ∧ Fr 135 [(2, .int .u64 z39_17), (8, .int .u64 z36_15), (9, .int .u64 z41_19), (10, .int .u64 z43_20), (14, .int .u64 z58_31), (15, .int .u64 s37), (16, .int .u64 s56.1), (17, .int .u64 z93_41), (18, .int .u64 s56.2)] a ∧ HZ w0 Zi Z [] w) KK ⟨_, (z101_45, z96_43), hS, (h.only [2, 8, 9, 10, 14, 15, 16, 17, 18] (l' := [_, _, _, _, _, _, _, _, _]) rfl), H⟩ ?_
      rintro mu_ a w ⟨Z, s56, hS, h, H⟩ Q57 hN57 hO57
      obtain ⟨mu_, rfl, n56, en56, hS⟩ := lpX eB56 hS
      have hret57 := hO57.ret hret46
      have hx2_57 := hO57.exit (i := 2) rfl hx2_46
      refine c_seq _ (fun a w c => c) fun Q58 hN58 hO58 => ?_
      have hret58 := hO58.ret hret57
      have hx2_58 := hO58.exit (i := 2) rfl hx2_57
      refine c_region fun K hK => ?_
      refine st1 h rfl rfl rfl (v_move rfl) fun a h => ?_
      obtain ⟨z103_59, ez103_59, hS⟩ := bv hS
      refine st1 h rfl rfl rfl (vB ez103_59 (v_ge rfl rfl)) fun a h => ?_
      refine st1 h rfl rfl rfl (v_move rfl) fun a h => ?_
      refine st_g h rfl rfl (gF rfl) rfl rfl (fun e0 => v_move rfl) fun a h => ?_
      refine st_g h rfl rfl (gF rfl) rfl rfl (fun e0 => v_move rfl) fun a h => ?_
      obtain ⟨z107_60, ez107_60, hS⟩ := bv hS
      refine st_g h rfl rfl (gF rfl) rfl rfl (fun e0 => vI ez107_60 (v_mulw (eg e0 rfl) (eg e0 rfl))) fun a h => ?_
      refine st_g h rfl rfl (gF rfl) rfl rfl (fun e0 => v_move rfl) fun a h => ?_
      obtain ⟨z109_61, ez109_61, hS⟩ := bv hS
      refine st_g h rfl rfl (gF rfl) rfl rfl (fun e0 => vI ez109_61 (v_mulw rfl (eg e0 rfl))) fun a h => ?_
      refine st_g h rfl rfl (gF rfl) rfl rfl (fun e0 => v_move rfl) fun a h => ?_
      obtain ⟨z111_62, ez111_62, hS⟩ := bv hS
      refine st_g h rfl rfl (gF rfl) rfl rfl (fun e0 => vI ez111_62 (v_addw (eg e0 rfl) (eg e0 rfl))) fun a h => ?_
      obtain ⟨z112_63, ez112_63, hS⟩ := bv hS
      refine st_g h rfl rfl (gF rfl) rfl rfl (fun e0 => vB ez112_63 (v_gt (eg e0 rfl) (eg e0 rfl))) fun a h => ?_
      obtain ⟨z113_64, ez113_64, hS⟩ := bv hS
      refine st1 h rfl rfl rfl (vB ez113_64 (v_or rfl rfl)) fun a h => ?_
      refine c_nil hK ?_
      have h := h.only [2, 8, 9, 10, 14, 15, 16, 17, 18, 113] (l' := [_, _, _, _, _, _, _, _, _, _]) rfl
      refine c_cond h rfl (fun ec65 => ?_) (fun ec65 => ?_)
      ·
       have hS := ifT ec65 hS
       refine c_skip ?_
       refine hN58 _ _ ?_
       refine c_lblock fun Q66 hN66 hx3_66 hO66 => ?_
       have hret66 := hO66.ret hret57
       have hx2_66 := hO66.exit (i := 2) rfl hx2_57
       refine c_region fun K hK => ?_
       refine st1 h rfl rfl rfl (v_move rfl) fun a h => ?_
       obtain ⟨z115_67, ez115_67, hS⟩ := bv hS
       refine st1 h rfl rfl rfl (vI ez115_67 (v_subw rfl rfl)) fun a h => ?_
       refine st1 h rfl rfl rfl (v_assign rfl) fun a h => ?_
       refine c_nil hK ?_
       refine c_region fun K hK => ?_
       refine st1 h rfl rfl rfl (v_move rfl) fun a h => ?_
       refine st1 h rfl rfl rfl (v_move rfl) fun a h => ?_
       obtain ⟨z118_68, ez118_68, hS⟩ := bv hS
       refine st1 h rfl rfl rfl (vI ez118_68 (v_addw rfl rfl)) fun a h => ?_
       refine st1 h rfl rfl rfl (v_assign rfl) fun a h => ?_
       refine c_nil hK ?_
       have h := h.only [2, 8, 9, 10, 14, 15, 16, 17, 18] (l' := [_, _, _, _, _, _, _, _, _]) rfl
       refine c_region fun K hK => ?_
       refine st1 h rfl rfl rfl (v_move rfl) fun a h => ?_
       obtain ⟨z120_69, ez120_69, hS⟩ := bv hS
       refine st1 h rfl rfl rfl (vB ez120_69 (v_ge rfl rfl)) fun a h => ?_
       refine c_nil hK ?_
       refine c_cond h rfl (fun ec70 => ?_) (fun ec70 => ?_)
       ·
        have hS := ifT ec70 hS
        refine c_exit ?_
        exact hx2_66 _ _ ⟨_, z115_67, hS, (h.only [2, 8, 14, 15, 17, 18] (l' := [_, _, _, _, _, _]) rfl), H⟩
       ·
        have hS := ifF ec70 hS
        refine c_skip ?_
        refine hN66 _ _ ?_
        exact hN57 _ _ _ (Nat.lt_succ_self _) ⟨_, (z118_68, z115_67), lpN en56 hS, (h.only [2, 8, 9, 10, 14, 15, 16, 17, 18] (l' := [_, _, _, _, _, _, _, _, _]) rfl), H⟩
      ·
       have hS := ifF ec65 hS
       refine c_exit ?_
       exact hx2_58 _ _ ⟨_, s56.2, hS, (h.only [2, 8, 14, 15, 17, 18] (l' := [_, _, _, _, _, _]) rfl), H⟩
    ·
     have hret36 := hO36.ret hret0
     obtain ⟨B71, eB71, hS⟩ := bv hS
     refine c_loopN (fun mu_ a w => ∃ (Z : FZ) (s71 : Int × Int), loopF B71 mu_ s71 = some res ∧ Fr 135 [(2, .int .u64 z39_17), (8, .int .u64 z36_15), (9, .int .u64 z41_19), (10, .int .u64 z43_20), (11, .int .u64 z51_26), (13, .int .u64 z56_30), (14, .int .u64 z58_31), (15, .int .u64 s71.1), (16, .int .u64 s71.2)] a ∧ HZ w0 Zi Z [] w) KK ⟨_, (z61_33, z66_35), hS, (h.only [2, 8, 9, 10, 11, 13, 14, 15, 16] (l' := [_, _, _, _, _, _, _, _, _]) rfl), H⟩ ?_
     rintro mu_ a w ⟨Z, s71, hS, h, H⟩ Q72 hN72 hO72
     obtain ⟨mu_, rfl, n71, en71, hS⟩ := lpX eB71 hS
     have hret72 := hO72.ret hret36
     have hx0_72 := hO72.exit (i := 0) rfl hx0_36
     refine c_seq _ (fun a w c => c) fun Q73 hN73 hO73 => ?_
     have hret73 := hO73.ret hret72
     have hx0_73 := hO73.exit (i := 0) rfl hx0_72
     refine c_region fun K hK => ?_
     refine st1 h rfl rfl rfl (v_move rfl) fun a h => ?_
     obtain ⟨z68_74, ez68_74, hS⟩ := bv hS
     refine st1 h rfl rfl rfl (vB ez68_74 (v_ge rfl rfl)) fun a h => ?_
     refine st1 h rfl rfl rfl (v_move rfl) fun a h => ?_
     refine st_g h rfl rfl (gF rfl) rfl rfl (fun e0 => v_move rfl) fun a h => ?_
     refine st_g h rfl rfl (gF rfl) rfl rfl (fun e0 => v_move rfl) fun a h => ?_
     obtain ⟨z72_75, ez72_75, hS⟩ := bv hS
     refine st_g h rfl rfl (gF rfl) rfl rfl (fun e0 => vI ez72_75 (v_mulw (eg e0 rfl) (eg e0 rfl))) fun a h => ?_
     refine st_g h rfl rfl (gF rfl) rfl rfl (fun e0 => v_move rfl) fun a h => ?_
     obtain ⟨z74_76, ez74_76, hS⟩ := bv hS
     refine st_g h rfl rfl (gF rfl) rfl rfl (fun e0 => vI ez74_76 (v_mulw rfl (eg e0 rfl))) fun a h => ?_
     refine st_g h rfl rfl (gF rfl) rfl rfl (fun e0 => v_move rfl) fun a h => ?_
     obtain ⟨z76_77, ez76_77, hS⟩ := bv hS
     refine st_g h rfl rfl (gF rfl) rfl rfl (fun e0 => vI ez76_77 (v_addw (eg e0 rfl) (eg e0 rfl))) fun a h => ?_
     obtain ⟨z77_78, ez77_78, hS⟩ := bv hS
     refine st_g h rfl rfl (gF rfl) rfl rfl (fun e0 => vB ez77_78 (v_gt (eg e0 rfl) (eg e0 rfl))) fun a h => ?_
     obtain ⟨z78_79, ez78_79, hS⟩ := bv hS
     refine st1 h rfl rfl rfl (vB ez78_79 (v_or rfl rfl)) fun a h => ?_
     refine c_nil hK ?_
     have h := h.only [2, 8, 9, 10, 11, 13, 14, 15, 16, 78] (l' := [_, _, _, _, _, _, _, _, _, _]) rfl
     refine c_cond h rfl (fun ec80 => ?_) (fun ec80 => ?_)
     ·
      have hS := ifT ec80 hS
      refine c_skip ?_
      refine hN73 _ _ ?_
      refine c_lblock fun Q81 hN81 hx1_81 hO81 => ?_
      have hret81 := hO81.ret hret72
      have hx0_81 := hO81.exit (i := 0) rfl hx0_72
      refine c_region fun K hK => ?_
      refine st1 h rfl rfl rfl (v_move rfl) fun a h => ?_
      obtain ⟨z80_82, ez80_82, hS⟩ := bv hS
      refine st1 h rfl rfl rfl (vI ez80_82 (v_subw rfl rfl)) fun a h => ?_
      refine st1 h rfl rfl rfl (v_assign rfl) fun a h => ?_
      refine c_nil hK ?_
      refine c_region fun K hK => ?_
      refine st1 h rfl rfl rfl (v_move rfl) fun a h => ?_
      refine st1 h rfl rfl rfl (v_move rfl) fun a h => ?_
      obtain ⟨z83_83, ez83_83, hS⟩ := bv hS
      refine st1 h rfl rfl rfl (vI ez83_83 (v_addw rfl rfl)) fun a h => ?_
      refine st1 h rfl rfl rfl (v_assign rfl) fun a h => ?_
      refine c_nil hK ?_
      have h := h.only [2, 8, 9, 10, 11, 13, 14, 15, 16] (l' := [_, _, _, _, _, _, _, _, _]) rfl
      refine c_region fun K hK => ?_
      refine st1 h rfl rfl rfl (v_move rfl) fun a h => ?_
      obtain ⟨z85_84, ez85_84, hS⟩ := bv hS
      refine st1 h rfl rfl rfl (vB ez85_84 (v_ge rfl rfl)) fun a h => ?_
      refine c_nil hK ?_
      refine c_cond h rfl (fun ec85 => ?_) (fun ec85 => ?_)
      ·
       have hS := ifT ec85 hS
       refine c_exit ?_
       exact hx0_81 _ _ ⟨_, z80_82, hS, (h.only [2, 8, 9, 10, 11, 13, 14, 15] (l' := [_, _, _, _, _, _, _, _]) rfl), H⟩
      ·
       have hS := ifF ec85 hS
       refine c_skip ?_
       refine hN81 _ _ ?_
       exact hN72 _ _ _ (Nat.lt_succ_self _) ⟨_, (z80_82, z83_83), lpN en71 hS, (h.only [2, 8, 9, 10, 11, 13, 14, 15, 16] (l' := [_, _, _, _, _, _, _, _, _]) rfl), H⟩
     ·
      have hS := ifF ec80 hS
      refine c_exit ?_
      exact hx0_73 _ _ ⟨_, s71.1, hS, (h.only [2, 8, 9, 10, 11, 13, 14, 15] (l' := [_, _, _, _, _, _, _, _]) rfl), H⟩
  ·
   have hret3 := hO3.ret hret0
   refine c_region fun K hK => ?_
   refine st1 h rfl rfl rfl (v_move rfl) fun a h => ?_
   refine st1 h rfl rfl rfl (v_move rfl) fun a h => ?_
   obtain ⟨z24_86, ez24_86, hS⟩ := bv hS
   refine st1 h rfl rfl rfl (vB ez24_86 (v_le rfl rfl)) fun a h => ?_
   refine c_nil hK ?_
   refine c_cond h rfl (fun ec87 => ?_) (fun ec87 => ?_)
   ·
    have hS := ifT ec87 hS
    exact nomatch hS
   ·
    have hS := ifF ec87 hS
    refine c_skip ?_
    exact hN3 _ _ ⟨_, (), hS, (h.only [0, 1, 2] (l' := [_, _, _]) rfl), H⟩
 ·
  have hret1 := hO1.ret hret0
  refine c_region fun K hK => ?_
  refine st1 h rfl rfl rfl (v_move rfl) fun a h => ?_
  obtain ⟨z20_88, ez20_88, hS⟩ := bv hS
  refine st1 h rfl rfl rfl (vB ez20_88 (v_eq rfl rfl)) fun a h => ?_
  refine c_nil hK ?_
  refine c_cond h rfl (fun ec89 => ?_) (fun ec89 => ?_)
  ·
   have hS := ifT ec89 hS
   exact nomatch hS
  ·
   have hS := ifF ec89 hS
   refine c_skip ?_
   exact hN1 _ _ ⟨_, (), hS, (h.only [0, 1, 2] (l' := [_, _, _]) rfl), H⟩

theorem num_scaled_ok {x0 : Int} {x1 : Int} {x2 : Int} {res : Int × Bool} {w0 : World} (hS : num_scaled x0 x1 x2 = some res) : Calls Tryz.prog 91 [.int .u64 x0, .int .u64 x1, .int .u64 x2].toArray w0 (Ret fun v w => v = .tuple #[.int .u64 res.1, .bool res.2] ∧ Ext w0 w) := by
 refine enter Tryz.func91 rfl rfl rfl fun Q a h hret0 hnor => ?_
 obtain ⟨Zi, Z, H⟩ : ∃ Zi Z, HZ w0 Zi Z [] w0 := ⟨_, _, HZ.start w0⟩
 have h := h.only [0, 1, 2] (l' := [_, _, _]) rfl
 unfold num_scaled at hS
 refine c_region fun K hK => ?_
 refine st1 h rfl rfl rfl (v_assign rfl) fun a h => ?_
 refine st1 h rfl rfl rfl (v_assign rfl) fun a h => ?_
 refine c_nil hK ?_
 refine c_region fun K hK => ?_
 refine st1 h rfl rfl rfl (v_move rfl) fun a h => ?_
 refine st1 h rfl rfl rfl (v_move rfl) fun a h => ?_
 obtain ⟨c2, hS⟩ := ck hS
 obtain ⟨z15_3, ez15_3, hS⟩ := bv hS
 refine st2v (T := Ext) (V := .tuple #[.int .u64 z15_3.1, .int .u64 z15_3.2]) h rfl rfl rfl ((by rw [ez15_3]; exact d_call [_, _] rfl Tryz.call76 (lib_mul64 c2))) fun w X a h => ?_
 have H := H.ext X
 refine st1 h rfl rfl rfl (v_move rfl) fun a h => ?_
 refine st1 h rfl rfl rfl (v_extract rfl rfl) fun a h => ?_
 refine st1 h rfl rfl rfl (v_extract rfl rfl) fun a h => ?_
 refine st1 h rfl rfl rfl (v_assign rfl) fun a h => ?_
 refine st1 h rfl rfl rfl (v_assign rfl) fun a h => ?_
 refine c_nil hK ?_
 have h := h.only [2, 8, 9] (l' := [_, _, _]) rfl
 refine c_seq _ (fun a w c => c) fun Q4 hN4 hO4 => ?_
 have hret4 := hO4.ret hret0
 refine c_region fun K hK => ?_
 refine st1 h rfl rfl rfl (v_move rfl) fun a h => ?_
 refine st1 h rfl rfl rfl (v_move rfl) fun a h => ?_
 obtain ⟨z20_5, ez20_5, hS⟩ := bv hS
 refine st1 h rfl rfl rfl (vB ez20_5 (v_ge rfl rfl)) fun a h => ?_
 refine c_nil hK ?_
 refine c_cond h rfl (fun ec6 => ?_) (fun ec6 => ?_)
 ·
  have hS := ifT ec6 hS
  refine c_region fun K hK => ?_
  refine st1 h rfl rfl rfl (v_assign rfl) fun a h => ?_
  refine st1 h rfl rfl rfl (v_assign rfl) fun a h => ?_
  refine c_nil hK ?_
  have h := h.only [6, 7] (l' := [_, _]) rfl
  obtain rfl := so hS
  refine c_ret (hret4 _ _ (out2 h rfl rfl rfl ?_))
  exact ⟨rfl, H.out⟩
 ·
  have hS := ifF ec6 hS
  refine c_skip ?_
  refine hN4 _ _ ?_
  refine c_region fun K hK => ?_
  refine st1 h rfl rfl rfl (v_move rfl) fun a h => ?_
  refine st1 h rfl rfl rfl (v_move rfl) fun a h => ?_
  refine st1 h rfl rfl rfl (v_move rfl) fun a h => ?_
  obtain ⟨y25_7, hy25_7, hS⟩ := bo hS
  refine st2v (T := Ext) (V := .tuple #[.int .u64 y25_7.1, .int .u64 y25_7.2]) h rfl rfl rfl (d_call [_, _, _] rfl Tryz.call107 (bits_Div64_ok (x0 := z15_3.1) (x1 := z15_3.2) (x2 := x2) hy25_7)) fun w X a h => ?_
  have H := H.ext X
  refine st1 h rfl rfl rfl (v_move rfl) fun a h => ?_
  refine st1 h rfl rfl rfl (v_extract rfl rfl) fun a h => ?_
  refine st1 h rfl rfl rfl (v_extract rfl rfl) fun a h => ?_
  refine st1 h rfl rfl rfl (v_assign rfl) fun a h => ?_
  refine st1 h rfl rfl rfl (v_assign rfl) fun a h => ?_
  refine c_nil hK ?_
  have h := h.only [2, 10, 11] (l' := [_, _, _]) rfl
  obtain ⟨J9, eJ9, hS⟩ := bv hS
  refine c_seq (fun a w => ∃ (Z : FZ) (s9 : Int), J9 s9 = some res ∧ Fr 45 [(2, .int .u64 x2), (10, .int .u64 s9), (11, .int .u64 y25_7.2)] a ∧ HZ w0 Zi Z [] w) ?_ fun Q8 hN8 hO8 => ?_
  ·
   rintro a w ⟨Z, s9, hS, h, H⟩
   subst eJ9
   refine c_region fun K hK => ?_
   refine st1 h rfl rfl rfl (v_move rfl) fun a h => ?_
   refine st1 h rfl rfl rfl (v_move rfl) fun a h => ?_
   obtain ⟨z37_10, ez37_10, hS⟩ := bv hS
   refine st1 h rfl rfl rfl (vB ez37_10 (v_ne rfl rfl)) fun a h => ?_
   refine st1 h rfl rfl rfl (v_move rfl) fun a h => ?_
   refine st_g h rfl rfl (gF rfl) rfl rfl (fun e0 => v_move rfl) fun a h => ?_
   refine st_g h rfl rfl (gF rfl) rfl rfl (fun e0 => v_move rfl) fun a h => ?_
   refine st_g h rfl rfl (gF rfl) rfl rfl (fun e0 => v_move rfl) fun a h => ?_
   obtain ⟨z42_11, ez42_11, hS⟩ := bv hS
   refine st_g h rfl rfl (gF rfl) rfl rfl (fun e0 => vI ez42_11 (v_subw (eg e0 rfl) (eg e0 rfl))) fun a h => ?_
   obtain ⟨z43_12, ez43_12, hS⟩ := bv hS
   refine st_g h rfl rfl (gF rfl) rfl rfl (fun e0 => vB ez43_12 (v_lt (eg e0 rfl) (eg e0 rfl))) fun a h => ?_
   obtain ⟨z44_13, ez44_13, hS⟩ := bv hS
   refine st1 h rfl rfl rfl (vB ez44_13 (v_or rfl rfl)) fun a h => ?_
   refine st1 h rfl rfl rfl (v_assign rfl) fun a h => ?_
   refine st1 h rfl rfl rfl (v_assign rfl) fun a h => ?_
   refine c_nil hK ?_
   have h := h.only [6, 7] (l' := [_, _]) rfl
   obtain rfl := so hS
   refine c_ret (hret0 _ _ (out2 h rfl rfl rfl ?_))
   exact ⟨rfl, H.out⟩
  ·
   have hret8 := hO8.ret hret0
   refine c_region fun K hK => ?_
   refine st1 h rfl rfl rfl (v_move rfl) fun a h => ?_
   refine st1 h rfl rfl rfl (v_move rfl) fun a h => ?_
   refine st1 h rfl rfl rfl (v_move rfl) fun a h => ?_
   obtain ⟨z31_14, ez31_14, hS⟩ := bv hS
   refine st1 h rfl rfl rfl (vI ez31_14 (v_subw rfl rfl)) fun a h => ?_
   obtain ⟨z32_15, ez32_15, hS⟩ := bv hS
   refine st1 h rfl rfl rfl (vB ez32_15 (v_ge rfl rfl)) fun a h => ?_
   refine c_nil hK ?_
   have h := h.only [2, 10, 11, 32] (l' := [_, _, _, _]) rfl
   refine c_cond h rfl (fun ec16 => ?_) (fun ec16 => ?_)
   ·
    have hS := ifT ec16 hS
    refine c_lregion ?_
    refine st1 h rfl rfl rfl (v_move rfl) fun a h => ?_
    obtain ⟨z34_17, ez34_17, hS⟩ := bv hS
    refine st1 h rfl rfl rfl (vI ez34_17 (v_addw rfl rfl)) fun a h => ?_
    refine st1 h rfl rfl rfl (v_assign rfl) fun a h => ?_
    refine c_lnil ?_
    exact hN8 _ _ ⟨_, z34_17, hS, (h.only [2, 10, 11] (l' := [_, _, _]) rfl), H⟩
   ·
    have hS := ifF ec16 hS
    refine c_skip ?_
    exact hN8 _ _ ⟨_, y25_7.1, hS, (h.only [2, 10, 11] (l' := [_, _, _]) rfl), H⟩

theorem num_Mul_ok {x0 : Int} {x1 : Int} {res : Int × Bool} {w0 : World} (hS : num_Mul x0 x1 = some res) : Calls Tryz.prog 55 [.int .i64 x0, .int .i64 x1].toArray w0 (Ret fun v w => v = .tuple #[.int .i64 res.1, .bool res.2] ∧ Ext w0 w) := by
 refine enter Tryz.func55 rfl rfl rfl fun Q a h hret0 hnor => ?_
 obtain ⟨Zi, Z, H⟩ : ∃ Zi Z, HZ w0 Zi Z [] w0 := ⟨_, _, HZ.start w0⟩
 have h := h.only [0, 1] (l' := [_, _]) rfl
 unfold num_Mul at hS
 refine c_region fun K hK => ?_
 refine st1 h rfl rfl rfl (v_assign rfl) fun a h => ?_
 refine st1 h rfl rfl rfl (v_assign rfl) fun a h => ?_
 refine c_nil hK ?_
 refine c_region fun K hK => ?_
 refine st1 h rfl rfl rfl (v_move rfl) fun a h => ?_
 obtain ⟨y10_1, hy10_1, hS⟩ := bo hS
 refine st2v (T := Ext) (V := .int .u64 y10_1) h rfl rfl rfl (d_call [_] rfl Tryz.call57 (num_abs_ok (x0 := x0) hy10_1)) fun w X a h => ?_
 have H := H.ext X
 refine st1 h rfl rfl rfl (v_move rfl) fun a h => ?_
 obtain ⟨y12_2, hy12_2, hS⟩ := bo hS
 refine st2v (T := Ext) (V := .int .u64 y12_2) h rfl rfl rfl (d_call [_] rfl Tryz.call57 (num_abs_ok (x0 := x1) hy12_2)) fun w X a h => ?_
 have H := H.ext X
 obtain ⟨y13_3, hy13_3, hS⟩ := bo hS
 refine st2v (T := Ext) (V := .tuple #[.int .u64 y13_3.1, .bool y13_3.2]) h rfl rfl rfl (d_call [_, _, _] rfl Tryz.call91 (num_scaled_ok (x0 := y10_1) (x1 := y12_2) (x2 := (1000000 : Int)) hy13_3)) fun w X a h => ?_
 have H := H.ext X
 refine st1 h rfl rfl rfl (v_move rfl) fun a h => ?_
 refine st1 h rfl rfl rfl (v_extract rfl rfl) fun a h => ?_
 refine st1 h rfl rfl rfl (v_extract rfl rfl) fun a h => ?_
 refine st1 h rfl rfl rfl (v_assign rfl) fun a h => ?_
 refine st1 h rfl rfl rfl (v_assign rfl) fun a h => ?_
 refine c_nil hK ?_
 have h := h.only [0, 1, 6, 7] (l' := [_, _, _, _]) rfl
 refine c_seq _ (fun a w c => c) fun Q4 hN4 hO4 => ?_
 have hret4 := hO4.ret hret0
 refine c_region fun K hK => ?_
 refine st1 h rfl rfl rfl (v_move rfl) fun a h => ?_
 obtain ⟨z17_5, ez17_5, hS⟩ := bv hS
 refine st1 h rfl rfl rfl (vB ez17_5 (v_not rfl)) fun a h => ?_
 refine c_nil hK ?_
 refine c_cond h rfl (fun ec6 => ?_) (fun ec6 => ?_)
 ·
  have hS := ifT ec6 hS
  refine c_region fun K hK => ?_
  refine st1 h rfl rfl rfl (v_assign rfl) fun a h => ?_
  refine st1 h rfl rfl rfl (v_assign rfl) fun a h => ?_
  refine c_nil hK ?_
  have h := h.only [4, 5] (l' := [_, _]) rfl
  obtain rfl := so hS
  refine c_ret (hret4 _ _ (out2 h rfl rfl rfl ?_))
  exact ⟨rfl, H.out⟩
 ·
  have hS := ifF ec6 hS
  refine c_skip ?_
  refine hN4 _ _ ?_
  refine c_region fun K hK => ?_
  refine st1 h rfl rfl rfl (v_move rfl) fun a h => ?_
  refine st1 h rfl rfl rfl (v_move rfl) fun a h => ?_
  obtain ⟨z20_7, ez20_7, hS⟩ := bv hS
  refine st1 h rfl rfl rfl (vB ez20_7 (v_lt rfl rfl)) fun a h => ?_
  refine st1 h rfl rfl rfl (v_move rfl) fun a h => ?_
  obtain ⟨z22_8, ez22_8, hS⟩ := bv hS
  refine st1 h rfl rfl rfl (vB ez22_8 (v_lt rfl rfl)) fun a h => ?_
  obtain ⟨z23_9, ez23_9, hS⟩ := bv hS
  refine st1 h rfl rfl rfl (vB ez23_9 (v_bne Tryz.underlying4 rfl rfl)) fun a h => ?_
  obtain ⟨y24_10, hy24_10, hS⟩ := bo hS
  refine st2v (T := Ext) (V := .tuple #[.int .i64 y24_10.1, .bool y24_10.2]) h rfl rfl rfl (d_call [_, _] rfl Tryz.call78 (num_signed_ok (x0 := y13_3.1) (x1 := z23_9) hy24_10)) fun w X a h => ?_
  have H := H.ext X
  refine st1 h rfl rfl rfl (v_extract rfl rfl) fun a h => ?_
  refine st1 h rfl rfl rfl (v_extract rfl rfl) fun a h => ?_
  refine st1 h rfl rfl rfl (v_assign rfl) fun a h => ?_
  refine st1 h rfl rfl rfl (v_assign rfl) fun a h => ?_
  refine c_nil hK ?_
  have h := h.only [4, 5] (l' := [_, _]) rfl
  obtain rfl := so hS
  refine c_ret (hret0 _ _ (out2 h rfl rfl rfl ?_))
  exact ⟨rfl, H.out⟩

theorem num_Quo_ok {x0 : Int} {x1 : Int} {res : Int × Bool} {w0 : World} (hS : num_Quo x0 x1 = some res) : Calls Tryz.prog 56 [.int .i64 x0, .int .i64 x1].toArray w0 (Ret fun v w => v = .tuple #[.int .i64 res.1, .bool res.2] ∧ Ext w0 w) := by
 refine enter Tryz.func56 rfl rfl rfl fun Q a h hret0 hnor => ?_
 obtain ⟨Zi, Z, H⟩ : ∃ Zi Z, HZ w0 Zi Z [] w0 := ⟨_, _, HZ.start w0⟩
 have h := h.only [0, 1] (l' := [_, _]) rfl
 unfold num_Quo at hS
 refine c_region fun K hK => ?_
 refine st1 h rfl rfl rfl (v_assign rfl) fun a h => ?_
 refine st1 h rfl rfl rfl (v_assign rfl) fun a h => ?_
 refine c_nil hK ?_
 refine c_seq _ (fun a w c => c) fun Q1 hN1 hO1 => ?_
 have hret1 := hO1.ret hret0
 refine c_region fun K hK => ?_
 refine st1 h rfl rfl rfl (v_move rfl) fun a h => ?_
 obtain ⟨z9_2, ez9_2, hS⟩ := bv hS
 refine st1 h rfl rfl rfl (vB ez9_2 (v_eq rfl rfl)) fun a h => ?_
 refine c_nil hK ?_
 refine c_cond h rfl (fun ec3 => ?_) (fun ec3 => ?_)
 ·
  have hS := ifT ec3 hS
  refine c_region fun K hK => ?_
  refine st1 h rfl rfl rfl (v_assign rfl) fun a h => ?_
  refine st1 h rfl rfl rfl (v_assign rfl) fun a h => ?_
  refine c_nil hK ?_
  have h := h.only [4, 5] (l' := [_, _]) rfl
  obtain rfl := so hS
  refine c_ret (hret1 _ _ (out2 h rfl rfl rfl ?_))
  exact ⟨rfl, H.out⟩
 ·
  have hS := ifF ec3 hS
  refine c_skip ?_
  refine hN1 _ _ ?_
  have h := h.only [0, 1] (l' := [_, _]) rfl
  refine c_region fun K hK => ?_
  refine st1 h rfl rfl rfl (v_move rfl) fun a h => ?_
  obtain ⟨y12_4, hy12_4, hS⟩ := bo hS
  refine st2v (T := Ext) (V := .int .u64 y12_4) h rfl rfl rfl (d_call [_] rfl Tryz.call57 (num_abs_ok (x0 := x0) hy12_4)) fun w X a h => ?_
  have H := H.ext X
  refine st1 h rfl rfl rfl (v_move rfl) fun a h => ?_
  obtain ⟨y14_5, hy14_5, hS⟩ := bo hS
  refine st2v (T := Ext) (V := .int .u64 y14_5) h rfl rfl rfl (d_call [_] rfl Tryz.call57 (num_abs_ok (x0 := x1) hy14_5)) fun w X a h => ?_
  have H := H.ext X
  obtain ⟨y15_6, hy15_6, hS⟩ := bo hS
  refine st2v (T := Ext) (V := .tuple #[.int .u64 y15_6.1, .bool y15_6.2]) h rfl rfl rfl (d_call [_, _, _] rfl Tryz.call91 (num_scaled_ok (x0 := y12_4) (x1 := (1000000 : Int)) (x2 := y14_5) hy15_6)) fun w X a h => ?_
  have H := H.ext X
  refine st1 h rfl rfl rfl (v_move rfl) fun a h => ?_
  refine st1 h rfl rfl rfl (v_extract rfl rfl) fun a h => ?_
  refine st1 h rfl rfl rfl (v_extract rfl rfl) fun a h => ?_
  refine st1 h rfl rfl rfl (v_assign rfl) fun a h => ?_
  refine st1 h rfl rfl rfl (v_assign rfl) fun a h => ?_
  refine c_nil hK ?_
  have h := h.only [0, 1, 6, 7] (l' := [_, _, _, _]) rfl
  refine c_seq _ (fun a w c => c) fun Q7 hN7 hO7 => ?_
  have hret7 := hO7.ret hret0
  refine c_region fun K hK => ?_
  refine st1 h rfl rfl rfl (v_move rfl) fun a h => ?_
  obtain ⟨z19_8, ez19_8, hS⟩ := bv hS
  refine st1 h rfl rfl rfl (vB ez19_8 (v_not rfl)) fun a h => ?_
  refine c_nil hK ?_
  refine c_cond h rfl (fun ec9 => ?_) (fun ec9 => ?_)
  ·
   have hS := ifT ec9 hS
   refine c_region fun K hK => ?_
   refine st1 h rfl rfl rfl (v_assign rfl) fun a h => ?_
   refine st1 h rfl rfl rfl (v_assign rfl) fun a h => ?_
   refine c_nil hK ?_
   have h := h.only [4, 5] (l' := [_, _]) rfl
   obtain rfl := so hS
   refine c_ret (hret7 _ _ (out2 h rfl rfl rfl ?_))
   exact ⟨rfl, H.out⟩
  ·
   have hS := ifF ec9 hS
   refine c_skip ?_
   refine hN7 _ _ ?_
   refine c_region fun K hK => ?_
   refine st1 h rfl rfl rfl (v_move rfl) fun a h => ?_
   refine st1 h rfl rfl rfl (v_move rfl) fun a h => ?_
   obtain ⟨z22_10, ez22_10, hS⟩ := bv hS
   refine st1 h rfl rfl rfl (vB ez22_10 (v_lt rfl rfl)) fun a h => ?_
   refine st1 h rfl rfl rfl (v_move rfl) fun a h => ?_
   obtain ⟨z24_11, ez24_11, hS⟩ := bv hS
   refine st1 h rfl rfl rfl (vB ez24_11 (v_lt rfl rfl)) fun a h => ?_
   obtain ⟨z25_12, ez25_12, hS⟩ := bv hS
   refine st1 h rfl rfl rfl (vB ez25_12 (v_bne Tryz.underlying4 rfl rfl)) fun a h => ?_
   obtain ⟨y26_13, hy26_13, hS⟩ := bo hS
   refine st2v (T := Ext) (V := .tuple #[.int .i64 y26_13.1, .bool y26_13.2]) h rfl rfl rfl (d_call [_, _] rfl Tryz.call78 (num_signed_ok (x0 := y15_6.1) (x1 := z25_12) hy26_13)) fun w X a h => ?_
   have H := H.ext X
   refine st1 h rfl rfl rfl (v_extract rfl rfl) fun a h => ?_
   refine st1 h rfl rfl rfl (v_extract rfl rfl) fun a h => ?_
   refine st1 h rfl rfl rfl (v_assign rfl) fun a h => ?_
   refine st1 h rfl rfl rfl (v_assign rfl) fun a h => ?_
   refine c_nil hK ?_
   have h := h.only [4, 5] (l' := [_, _]) rfl
   obtain rfl := so hS
   refine c_ret (hret0 _ _ (out2 h rfl rfl rfl ?_))
   exact ⟨rfl, H.out⟩

theorem num_Print_ok {x0 : Int} {res : (List UInt8)} {w0 : World} (hS : num_Print x0 = some res) : Calls Tryz.prog 26 [.int .i64 x0].toArray w0 (Ret fun v w => v = S res ∧ Ext w0 w) := by
 refine enter Tryz.func26 rfl rfl rfl fun Q a h hret0 hnor => ?_
 obtain ⟨Zi, Z, H⟩ : ∃ Zi Z, HZ w0 Zi Z [] w0 := ⟨_, _, HZ.start w0⟩
 have h := h.only [0] (l' := [_]) rfl
 unfold num_Print at hS
 refine c_region fun K hK => ?_
 refine st1 h rfl rfl rfl (v_assign rfl) fun a h => ?_
 refine c_nil hK ?_
 refine c_region fun K hK => ?_
 refine st1 h rfl rfl rfl (v_move rfl) fun a h => ?_
 obtain ⟨y11_1, hy11_1, hS⟩ := bo hS
 refine st2v (T := Ext) (V := .int .u64 y11_1) h rfl rfl rfl (d_call [_] rfl Tryz.call57 (num_abs_ok (x0 := x0) hy11_1)) fun w X a h => ?_
 have H := H.ext X
 refine st1 h rfl rfl rfl (v_assign rfl) fun a h => ?_
 refine c_nil hK ?_
 refine c_region fun K hK => ?_
 refine z_slice0 h H Tryz.underlying82 Tryz.sizeOf5 rfl fun a v12_2 w X H h => ?_
 have H : HZ w0 _ _ [_] _ := H
 refine st1 h rfl rfl rfl (v_assign rfl) fun a h => ?_
 refine c_nil hK ?_
 have h := h.only [0, 3, 4] (l' := [_, _, _]) rfl
 refine c_region fun K hK => ?_
 refine st1 h rfl rfl rfl (v_assign rfl) fun a h => ?_
 refine c_nil hK ?_
 obtain ⟨J4, eJ4, hS⟩ := bv hS
 refine c_seq (fun a w => ∃ (Z : FZ) (s4 : (List (Int))) (sv5 : Value), J4 s4 = some res ∧ Fr 74 [(0, .int .i64 x0), (4, sv5)] a ∧ HZ w0 Zi Z [.row 5 1 sv5 (s4 : List (Int)).length ((s4 : List (Int)).flatMap (eI .u8))] w) ?_ fun Q3 hN3 hO3 => ?_
 ·
  rintro a w ⟨Z, s4, sv5, hS, h, H⟩
  subst eJ4
  obtain ⟨J7, eJ7, hS⟩ := bv hS
  refine c_seq (fun a w => ∃ (Z : FZ) (s7 : (List (Int))) (sv8 : Value), J7 s7 = some res ∧ Fr 74 [(4, sv8)] a ∧ HZ w0 Zi Z [.row 5 1 sv8 (s7 : List (Int)).length ((s7 : List (Int)).flatMap (eI .u8))] w) ?_ fun Q6 hN6 hO6 => ?_
  ·
   rintro a w ⟨Z, s7, sv8, hS, h, H⟩
   subst eJ7
   obtain ⟨J10, eJ10, hS⟩ := bv hS
   refine c_seq (fun a w => ∃ (Z : FZ) (s10 : (List (Int))) (sv11 : Value), J10 s10 = some res ∧ Fr 74 [(4, sv11)] a ∧ HZ w0 Zi Z [.row 5 1 sv11 (s10 : List (Int)).length ((s10 : List (Int)).flatMap (eI .u8))] w) ?_ fun Q9 hN9 hO9 => ?_
   ·
    rintro a w ⟨Z, s10, sv11, hS, h, H⟩
    subst eJ10
    refine c_region fun K hK => ?_
    refine st1 h rfl rfl rfl (v_move rfl) fun a h => ?_
    obtain ⟨c12, hS⟩ := ck hS
    obtain ⟨z73_13, ez73_13, hS⟩ := bv hS
    refine st1 h rfl rfl rfl (vS ez73_13 (v_toStrI Tryz.underlying82 Tryz.underlying5 Tryz.underlying9 rfl (H.getRow (i := 0) (enc := (eI .u8)) rfl) c12)) fun a h => ?_
    refine st1 h rfl rfl rfl (v_assign rfl) fun a h => ?_
    refine c_nil hK ?_
    obtain rfl := so hS
    refine c_ret (hret0 _ _ (out1 h rfl rfl ?_))
    exact ⟨rfl, H.out⟩
   ·
    have hret9 := hO9.ret hret0
    refine c_region fun K hK => ?_
    refine st1 h rfl rfl rfl (v_move rfl) fun a h => ?_
    refine st1 h rfl rfl rfl (v_len Tryz.underlying82 rfl (H.getRow (i := 0) (enc := (eI .u8)) rfl)) fun a h => ?_
    obtain ⟨z50_14, ez50_14, hS⟩ := bv hS
    refine st1 h rfl rfl rfl (vI ez50_14 (v_subw rfl rfl)) fun a h => ?_
    refine st1 h rfl rfl rfl (v_assign rfl) fun a h => ?_
    refine st1 h rfl rfl rfl (v_assign rfl) fun a h => ?_
    refine c_nil hK ?_
    refine c_lblock fun Q15 hN15 hx2_15 hO15 => ?_
    have hret15 := hO15.ret hret9
    obtain ⟨B16, eB16, hS⟩ := bv hS
    refine c_loopN (fun mu_ a w => ∃ (Z : FZ) (s16 : Int × Int × (List (Int))) (sv18 : Value), loopF B16 mu_ s16 = some res ∧ Fr 74 [(4, sv18), (8, .int .i64 s16.1), (9, .int .i64 s16.2.1)] a ∧ HZ w0 Zi Z [.row 5 1 sv18 (s16.2.2 : List (Int)).length ((s16.2.2 : List (Int)).flatMap (eI .u8))] w) KK ⟨_, (0, z50_14, s7), _, hS, (h.only [4, 8, 9] (l' := [_, _, _]) rfl), H⟩ ?_
    rintro mu_ a w ⟨Z, s16, sv18, hS, h, H⟩ Q17 hN17 hO17
    obtain ⟨mu_, rfl, n16, en16, hS⟩ := lpX eB16 hS
    have hret17 := hO17.ret hret15
    have hx2_17 := hO17.exit (i := 2) rfl hx2_15
    refine c_seq _ (fun a w c => c) fun Q19 hN19 hO19 => ?_
    have hret19 := hO19.ret hret17
    have hx2_19 := hO19.exit (i := 2) rfl hx2_17
    refine c_region fun K hK => ?_
    refine st1 h rfl rfl rfl (v_move rfl) fun a h => ?_
    refine st1 h rfl rfl rfl (v_move rfl) fun a h => ?_
    obtain ⟨z53_20, ez53_20, hS⟩ := bv hS
    refine st1 h rfl rfl rfl (vB ez53_20 (v_lt rfl rfl)) fun a h => ?_
    refine c_nil hK ?_
    refine c_cond h rfl (fun ec21 => ?_) (fun ec21 => ?_)
    ·
     have hS := ifT ec21 hS
     refine c_skip ?_
     refine hN19 _ _ ?_
     refine c_block _ (fun a w c => c) fun Q22 hN22 hx3_22 hO22 => ?_
     have hret22 := hO22.ret hret17
     have hx2_22 := hO22.exit (i := 2) rfl hx2_17
     obtain ⟨c23, hS⟩ := ck hS
     obtain ⟨c24, hS⟩ := ck hS
     obtain ⟨zrow_25, ezrow_25, hS⟩ := bv hS
     obtain ⟨bb, cap_, cs, hsv, hb, hcl, hct⟩ := H.openRow (i := 0) rfl (by omega)
     rw [hsv] at h H
     have hpi := row_at hct c23
     have hpj := row_at hct c24
     have hli : (Int.toNat s16.1) < cs.length := by omega
     have hlj : (Int.toNat s16.2.1) < cs.length := by omega
     refine c_lany (by kernel_rfl) ?_
     have H := H.ext (Ext.drew w)
     have hb : (w.drew).heap[bb]? = some (.cells cs.toArray 5 (0, 0)) := hb
     have hX : ({ w with drawn := w.drawn + 1 } : World) = w.drew := rfl
     rw [hX]
     generalize w.drew = wd at *
     refine a_hoist (i := 0) h rfl rfl rfl rfl (fun w => v_move rfl) (by kernel_rfl) rfl fun a h => ?_
     refine a_hoist (i := 1) h rfl rfl rfl rfl (fun w => v_move rfl) (by kernel_rfl) rfl fun a h => ?_
     refine a_hoist (i := 2) h rfl rfl rfl rfl (fun w => v_move rfl) (by kernel_rfl) rfl fun a h => ?_
     refine a_hoist (i := 3) h rfl rfl rfl rfl (fun w => v_move rfl) (by kernel_rfl) rfl fun a h => ?_
     refine a_hoist (i := 4) h rfl rfl rfl rfl (fun w => v_move rfl) (by kernel_rfl) rfl fun a h => ?_
     refine a_hoist (i := 5) h rfl rfl rfl rfl (fun w => v_move rfl) (by kernel_rfl) rfl fun a h => ?_
     refine a_hoist (i := 6) h rfl rfl rfl rfl (fun w => v_idxB (data := s16.2.2) (sz := 1) Tryz.underlying82 Tryz.sizeOf5 rfl rfl rfl c24) (by kernel_rfl) rfl fun a h => ?_
     refine a_hoist (i := 8) h rfl rfl rfl rfl (fun w => v_move rfl) (by kernel_rfl) rfl fun a h => ?_
     refine a_hoist (i := 9) h rfl rfl rfl rfl (fun w => v_move rfl) (by kernel_rfl) rfl fun a h => ?_
     refine a_hoist (i := 10) h rfl rfl rfl rfl (fun w => v_idxB (data := s16.2.2) (sz := 1) Tryz.underlying82 Tryz.sizeOf5 rfl rfl rfl c23) (by kernel_rfl) rfl fun a h => ?_
     refine a_two (i := 7) (j := 11) (by kernel_rfl) rfl rfl (R1.val h rfl (v_load1 rfl Tryz.isAgg5 hb hpj)) (R1.val h rfl (v_load1 rfl Tryz.isAgg5 hb hpi)) ?_ ?_
     ·
      have h := h.put (d := 65) rfl (.int .u8 (gel s16.2.2 s16.2.1))
      refine a_one (i := 11) (by kernel_rfl) rfl (R1.val h rfl (v_load1 rfl Tryz.isAgg5 hb hpi)) rfl ?_
      have h := h.put (d := 69) rfl (.int .u8 (gel s16.2.2 s16.1))
      refine a_one (i := 12) (by kernel_rfl) rfl (R1.val h rfl (v_idxB (data := s16.2.2) (sz := 1) Tryz.underlying82 Tryz.sizeOf5 rfl rfl rfl c23)) rfl ?_
      have h := h.put (d := 70) rfl (.pointer (some ⟨bb, (Int.toNat s16.1), none⟩))
      obtain ⟨w1, hR1, hb1, a1, a2, a3, a4, a5⟩ := r_store1 (ops := _) (P := Tryz.prog) (x := .tmp 70) (y := .tmp 65) (off := (Int.toNat s16.1)) (u := .int .u8 (gel s16.2.2 s16.2.1)) h rfl rfl rfl rfl rfl Tryz.sizeOf5 hb hli
      refine a_one (i := 13) (by kernel_rfl) rfl hR1 rfl ?_
      refine a_one (i := 14) (by kernel_rfl) rfl (R1.val h rfl (v_idxB (data := s16.2.2) (sz := 1) Tryz.underlying82 Tryz.sizeOf5 rfl rfl rfl c24)) rfl ?_
      have h := h.put (d := 71) rfl (.pointer (some ⟨bb, (Int.toNat s16.2.1), none⟩))
      obtain ⟨w2, hR2, hb2, b1, b2, b3, b4, b5⟩ := r_store1 (ops := _) (P := Tryz.prog) (x := .tmp 71) (y := .tmp 69) (off := (Int.toNat s16.2.1)) (u := .int .u8 (gel s16.2.2 s16.1)) h rfl rfl rfl rfl rfl Tryz.sizeOf5 hb1 (by rw [List.length_set]; exact hlj)
      refine a_one (i := 15) (by kernel_rfl) rfl hR2 rfl ?_
      refine a_end (by kernel_rfl) ?_
      have H := H.setRow (i := 0) (k := .u8) (out := s16.2.2) (out' := zrow_25) rfl hb hb2 (by rw [ezrow_25]; simp) (by simp) (by rw [ezrow_25, List.take_set, List.take_set, hct, List.map_set, List.map_set]) (b1.trans a1) (b2.trans a2) (b3.trans a3) (b4.trans a4) (fun c hc => (b5 c hc).trans (a5 c hc))
      have h := h.only [4, 8, 9] (l' := [_, _, _]) rfl
      have H : HZ w0 _ _ [_] _ := H
      generalize w2 = w at h H
      refine hN22 _ _ ?_
      refine c_lregion ?_
      refine st1 h rfl rfl rfl (v_move rfl) fun a h => ?_
      obtain ⟨z55_26, ez55_26, hS⟩ := bv hS
      refine st1 h rfl rfl rfl (vI ez55_26 (v_addw rfl rfl)) fun a h => ?_
      refine st1 h rfl rfl rfl (v_move rfl) fun a h => ?_
      obtain ⟨z57_27, ez57_27, hS⟩ := bv hS
      refine st1 h rfl rfl rfl (vI ez57_27 (v_subw rfl rfl)) fun a h => ?_
      refine st1 h rfl rfl rfl (v_assign rfl) fun a h => ?_
      refine st1 h rfl rfl rfl (v_assign rfl) fun a h => ?_
      refine c_lnil ?_
      exact hN17 _ _ _ (Nat.lt_succ_self _) ⟨_, (z55_26, z57_27, zrow_25), _, lpN en16 hS, (h.only [4, 8, 9] (l' := [_, _, _]) rfl), H⟩
     ·
      have h := h.put (d := 69) rfl (.int .u8 (gel s16.2.2 s16.1))
      refine a_one (i := 7) (by kernel_rfl) rfl (R1.val h rfl (v_load1 rfl Tryz.isAgg5 hb hpj)) rfl ?_
      have h := h.put (d := 65) rfl (.int .u8 (gel s16.2.2 s16.2.1))
      refine a_one (i := 12) (by kernel_rfl) rfl (R1.val h rfl (v_idxB (data := s16.2.2) (sz := 1) Tryz.underlying82 Tryz.sizeOf5 rfl rfl rfl c23)) rfl ?_
      have h := h.put (d := 70) rfl (.pointer (some ⟨bb, (Int.toNat s16.1), none⟩))
      obtain ⟨w1, hR1, hb1, a1, a2, a3, a4, a5⟩ := r_store1 (ops := _) (P := Tryz.prog) (x := .tmp 70) (y := .tmp 65) (off := (Int.toNat s16.1)) (u := .int .u8 (gel s16.2.2 s16.2.1)) h rfl rfl rfl rfl rfl Tryz.sizeOf5 hb hli
      refine a_one (i := 13) (by kernel_rfl) rfl hR1 rfl ?_
      refine a_one (i := 14) (by kernel_rfl) rfl (R1.val h rfl (v_idxB (data := s16.2.2) (sz := 1) Tryz.underlying82 Tryz.sizeOf5 rfl rfl rfl c24)) rfl ?_
      have h := h.put (d := 71) rfl (.pointer (some ⟨bb, (Int.toNat s16.2.1), none⟩))
      obtain ⟨w2, hR2, hb2, b1, b2, b3, b4, b5⟩ := r_store1 (ops := _) (P := Tryz.prog) (x := .tmp 71) (y := .tmp 69) (off := (Int.toNat s16.2.1)) (u := .int .u8 (gel s16.2.2 s16.1)) h rfl rfl rfl rfl rfl Tryz.sizeOf5 hb1 (by rw [List.length_set]; exact hlj)
      refine a_one (i := 15) (by kernel_rfl) rfl hR2 rfl ?_
      refine a_end (by kernel_rfl) ?_
      have H := H.setRow (i := 0) (k := .u8) (out := s16.2.2) (out' := zrow_25) rfl hb hb2 (by rw [ezrow_25]; simp) (by simp) (by rw [ezrow_25, List.take_set, List.take_set, hct, List.map_set, List.map_set]) (b1.trans a1) (b2.trans a2) (b3.trans a3) (b4.trans a4) (fun c hc => (b5 c hc).trans (a5 c hc))
      have h := h.only [4, 8, 9] (l' := [_, _, _]) rfl
      have H : HZ w0 _ _ [_] _ := H
      generalize w2 = w at h H
      refine hN22 _ _ ?_
      refine c_lregion ?_
      refine st1 h rfl rfl rfl (v_move rfl) fun a h => ?_
      obtain ⟨z55_28, ez55_28, hS⟩ := bv hS
      refine st1 h rfl rfl rfl (vI ez55_28 (v_addw rfl rfl)) fun a h => ?_
      refine st1 h rfl rfl rfl (v_move rfl) fun a h => ?_
      obtain ⟨z57_29, ez57_29, hS⟩ := bv hS
      refine st1 h rfl rfl rfl (vI ez57_29 (v_subw rfl rfl)) fun a h => ?_
      refine st1 h rfl rfl rfl (v_assign rfl) fun a h => ?_
      refine st1 h rfl rfl rfl (v_assign rfl) fun a h => ?_
      refine c_lnil ?_
      exact hN17 _ _ _ (Nat.lt_succ_self _) ⟨_, (z55_28, z57_29, zrow_25), _, lpN en16 hS, (h.only [4, 8, 9] (l' := [_, _, _]) rfl), H⟩
    ·
     have hS := ifF ec21 hS
     refine c_exit ?_
     refine hx2_19 _ _ ?_
     exact hN9 _ _ ⟨_, s16.2.2, _, hS, (h.only [4] (l' := [_]) rfl), H⟩
  ·
   have hret6 := hO6.ret hret0
   refine c_region fun K hK => ?_
   refine st1 h rfl rfl rfl (v_move rfl) fun a h => ?_
   obtain ⟨z44_30, ez44_30, hS⟩ := bv hS
   refine st1 h rfl rfl rfl (vB ez44_30 (v_lt rfl rfl)) fun a h => ?_
   refine c_nil hK ?_
   refine c_cond h rfl (fun ec31 => ?_) (fun ec31 => ?_)
   ·
    have hS := ifT ec31 hS
    refine c_lregion ?_
    refine st1 h rfl rfl rfl (v_move rfl) fun a h => ?_
    refine z_slice (enc := (eI .u8)) ([45] : List (Int)) h H Tryz.underlying82 Tryz.sizeOf5 Tryz.zeroValue5 rfl (zl := [.int .u8 0]) (by kernel_rfl) (plA_get 1 1) [_] [_] rfl rfl rfl rfl rfl fun a v46_32 Z w hsub X H r46_32 h => ?_
    obtain ⟨c34, hS⟩ := ck hS
    obtain ⟨z47_35, ez47_35, hS⟩ := bv hS
    refine z_appendS (enc := (eI .u8)) (out := s4) (data := [45]) h H 0 rfl Tryz.underlying82 app5 rfl rfl rfl r46_32 (fun _ => rfl) (fun _ _ => rfl) c34 rfl fun a v47_33 w H h => ?_
    rw [← ez47_35] at H
    have H : HZ w0 _ _ [_] _ := H
    refine st1 h rfl rfl rfl (v_assign rfl) fun a h => ?_
    refine c_lnil ?_
    exact hN6 _ _ ⟨_, z47_35, _, hS, (h.only [4] (l' := [_]) rfl), H⟩
   ·
    have hS := ifF ec31 hS
    refine c_skip ?_
    exact hN6 _ _ ⟨_, s4, _, hS, (h.only [4] (l' := [_]) rfl), H⟩
 ·
  have hret3 := hO3.ret hret0
  refine c_region fun K hK => ?_
  refine st1 h rfl rfl rfl (v_assign rfl) fun a h => ?_
  refine c_nil hK ?_
  refine c_lblock fun Q36 hN36 hx0_36 hO36 => ?_
  have hret36 := hO36.ret hret3
  obtain ⟨B37, eB37, hS⟩ := bv hS
  refine c_loopN (fun mu_ a w => ∃ (Z : FZ) (s37 : Int × Bool × Int × (List (Int))) (sv39 : Value), loopF B37 mu_ s37 = some res ∧ Fr 74 [(0, .int .i64 x0), (3, .int .u64 s37.1), (4, sv39), (5, .bool s37.2.1), (6, .int .i64 s37.2.2.1)] a ∧ HZ w0 Zi Z [.row 5 1 sv39 (s37.2.2.2 : List (Int)).length ((s37.2.2.2 : List (Int)).flatMap (eI .u8))] w) KK ⟨_, (y11_1, true, 0, []), _, hS, (h.only [0, 3, 4, 5, 6] (l' := [_, _, _, _, _]) rfl), H⟩ ?_
  rintro mu_ a w ⟨Z, s37, sv39, hS, h, H⟩ Q38 hN38 hO38
  obtain ⟨mu_, rfl, n37, en37, hS⟩ := lpX eB37 hS
  have hret38 := hO38.ret hret36
  have hx0_38 := hO38.exit (i := 0) rfl hx0_36
  refine c_seq _ (fun a w c => c) fun Q40 hN40 hO40 => ?_
  have hret40 := hO40.ret hret38
  have hx0_40 := hO40.exit (i := 0) rfl hx0_38
  refine c_region fun K hK => ?_
  refine st1 h rfl rfl rfl (v_move rfl) fun a h => ?_
  obtain ⟨z14_41, ez14_41, hS⟩ := bv hS
  refine st1 h rfl rfl rfl (vB ez14_41 (v_lt rfl rfl)) fun a h => ?_
  refine st1 h rfl rfl rfl (v_move rfl) fun a h => ?_
  refine st_g h rfl rfl (gF rfl) rfl rfl (fun e0 => v_move rfl) fun a h => ?_
  obtain ⟨z17_42, ez17_42, hS⟩ := bv hS
  refine st_g h rfl rfl (gF rfl) rfl rfl (fun e0 => vB ez17_42 (v_gt (eg e0 rfl) rfl)) fun a h => ?_
  obtain ⟨z18_43, ez18_43, hS⟩ := bv hS
  refine st1 h rfl rfl rfl (vB ez18_43 (v_or rfl rfl)) fun a h => ?_
  refine c_nil hK ?_
  have h := h.only [0, 3, 4, 5, 6, 18] (l' := [_, _, _, _, _, _]) rfl
  refine c_cond h rfl (fun ec44 => ?_) (fun ec44 => ?_)
  ·
   have hS := ifT ec44 hS
   refine c_skip ?_
   refine hN40 _ _ ?_
   obtain ⟨J46, eJ46, hS⟩ := bv hS
   refine c_block (fun a w => ∃ (Z : FZ) (s46 : Int × Bool × (List (Int))) (sv47 : Value), J46 s46 = some res ∧ Fr 74 [(0, .int .i64 x0), (3, .int .u64 s46.1), (4, sv47), (5, .bool s46.2.1), (6, .int .i64 s37.2.2.1)] a ∧ HZ w0 Zi Z [.row 5 1 sv47 (s46.2.2 : List (Int)).length ((s46.2.2 : List (Int)).flatMap (eI .u8))] w) ?_ fun Q45 hN45 hx1_45 hO45 => ?_
   ·
    rintro a w ⟨Z, s46, sv47, hS, h, H⟩
    subst eJ46
    refine c_lregion ?_
    refine st1 h rfl rfl rfl (v_move rfl) fun a h => ?_
    obtain ⟨z20_48, ez20_48, hS⟩ := bv hS
    refine st1 h rfl rfl rfl (vI ez20_48 (v_addw rfl rfl)) fun a h => ?_
    refine st1 h rfl rfl rfl (v_assign rfl) fun a h => ?_
    refine c_lnil ?_
    exact hN38 _ _ _ (Nat.lt_succ_self _) ⟨_, (s46.1, s46.2.1, z20_48, s46.2.2), _, lpN en37 hS, (h.only [0, 3, 4, 5, 6] (l' := [_, _, _, _, _]) rfl), H⟩
   ·
    have hret45 := hO45.ret hret38
    have hx0_45 := hO45.exit (i := 0) rfl hx0_38
    obtain ⟨J50, eJ50, hS⟩ := bv hS
    refine c_seq (fun a w => ∃ (Z : FZ) (s50 : Bool × (List (Int))) (sv51 : Value), J50 s50 = some res ∧ Fr 74 [(0, .int .i64 x0), (3, .int .u64 s37.1), (4, sv51), (5, .bool s50.1), (6, .int .i64 s37.2.2.1)] a ∧ HZ w0 Zi Z [.row 5 1 sv51 (s50.2 : List (Int)).length ((s50.2 : List (Int)).flatMap (eI .u8))] w) ?_ fun Q49 hN49 hO49 => ?_
    ·
     rintro a w ⟨Z, s50, sv51, hS, h, H⟩
     subst eJ50
     refine c_region fun K hK => ?_
     refine st1 h rfl rfl rfl (v_move rfl) fun a h => ?_
     obtain ⟨z29_52, ez29_52, hS⟩ := bv hS
     refine st1 h rfl rfl rfl (vI ez29_52 (v_rem rfl rfl (by decide))) fun a h => ?_
     obtain ⟨z30_53, ez30_53, hS⟩ := bv hS
     refine st1 h rfl rfl rfl (vI ez30_53 (v_convInt (by rw [Tryz.underlying80]; rfl) Tryz.underlying5 rfl rfl)) fun a h => ?_
     refine st1 h rfl rfl rfl (v_assign rfl) fun a h => ?_
     refine c_nil hK ?_
     refine c_region fun K hK => ?_
     refine st1 h rfl rfl rfl (v_move rfl) fun a h => ?_
     obtain ⟨z32_54, ez32_54, hS⟩ := bv hS
     refine st1 h rfl rfl rfl (vI ez32_54 (v_quow rfl rfl (by decide))) fun a h => ?_
     refine st1 h rfl rfl rfl (v_assign rfl) fun a h => ?_
     refine c_nil hK ?_
     have h := h.only [0, 3, 4, 5, 6, 7] (l' := [_, _, _, _, _, _]) rfl
     refine c_seq _ (fun a w c => c) fun Q55 hN55 hO55 => ?_
     have hret55 := hO55.ret hret45
     have hx0_55 := hO55.exit (i := 0) rfl hx0_45
     have hx1_55 := hO55.exit (i := 1) rfl hx1_45
     refine c_region fun K hK => ?_
     refine st1 h rfl rfl rfl (v_move rfl) fun a h => ?_
     refine st1 h rfl rfl rfl (v_move rfl) fun a h => ?_
     refine st_g h rfl rfl (gT rfl) rfl rfl (fun e0 => v_move rfl) fun a h => ?_
     obtain ⟨z36_56, ez36_56, hS⟩ := bv hS
     refine st_g h rfl rfl (gT rfl) rfl rfl (fun e0 => vB ez36_56 (v_eq (eg e0 rfl) rfl)) fun a h => ?_
     obtain ⟨z37_57, ez37_57, hS⟩ := bv hS
     refine st1 h rfl rfl rfl (vB ez37_57 (v_and rfl rfl)) fun a h => ?_
     refine c_nil hK ?_
     have h := h.only [0, 3, 4, 5, 6, 7, 37] (l' := [_, _, _, _, _, _, _]) rfl
     refine c_cond h rfl (fun ec58 => ?_) (fun ec58 => ?_)
     ·
      have hS := ifT ec58 hS
      refine c_exit ?_
      exact hx1_55 _ _ ⟨_, (z32_54, s50.1, s50.2), _, hS, (h.only [0, 3, 4, 5, 6] (l' := [_, _, _, _, _]) rfl), H⟩
     ·
      have hS := ifF ec58 hS
      refine c_skip ?_
      refine hN55 _ _ ?_
      refine c_region fun K hK => ?_
      refine st1 h rfl rfl rfl (v_assign rfl) fun a h => ?_
      refine c_nil hK ?_
      refine c_lregion ?_
      refine st1 h rfl rfl rfl (v_move rfl) fun a h => ?_
      refine st1 h rfl rfl rfl (v_move rfl) fun a h => ?_
      obtain ⟨z40_59, ez40_59, hS⟩ := bv hS
      refine st1 h rfl rfl rfl (vI ez40_59 (v_addw rfl rfl)) fun a h => ?_
      refine z_slice (enc := (eI .u8)) ([z40_59] : List (Int)) h H Tryz.underlying82 Tryz.sizeOf5 Tryz.zeroValue5 rfl (zl := [.int .u8 0]) (by kernel_rfl) (plA_get 1 1) [_] [_] rfl rfl rfl rfl rfl fun a v41_60 Z w hsub X H r41_60 h => ?_
      obtain ⟨c62, hS⟩ := ck hS
      obtain ⟨z42_63, ez42_63, hS⟩ := bv hS
      refine z_appendS (enc := (eI .u8)) (out := s50.2) (data := [z40_59]) h H 0 rfl Tryz.underlying82 app5 rfl rfl rfl r41_60 (fun _ => rfl) (fun _ _ => rfl) c62 rfl fun a v42_61 w H h => ?_
      rw [← ez42_63] at H
      have H : HZ w0 _ _ [_] _ := H
      refine st1 h rfl rfl rfl (v_assign rfl) fun a h => ?_
      refine c_lnil ?_
      exact hN45 _ _ ⟨_, (z32_54, false, z42_63), _, hS, (h.only [0, 3, 4, 5, 6] (l' := [_, _, _, _, _]) rfl), H⟩
    ·
     have hret49 := hO49.ret hret45
     have hx0_49 := hO49.exit (i := 0) rfl hx0_45
     have hx1_49 := hO49.exit (i := 1) rfl hx1_45
     refine c_region fun K hK => ?_
     refine st1 h rfl rfl rfl (v_move rfl) fun a h => ?_
     obtain ⟨z22_64, ez22_64, hS⟩ := bv hS
     refine st1 h rfl rfl rfl (vB ez22_64 (v_eq rfl rfl)) fun a h => ?_
     refine c_nil hK ?_
     refine c_cond h rfl (fun ec65 => ?_) (fun ec65 => ?_)
     ·
      have hS := ifT ec65 hS
      refine c_seq _ (fun a w c => c) fun Q66 hN66 hO66 => ?_
      have hret66 := hO66.ret hret49
      have hx0_66 := hO66.exit (i := 0) rfl hx0_49
      have hx1_66 := hO66.exit (i := 1) rfl hx1_49
      refine c_region fun K hK => ?_
      refine st1 h rfl rfl rfl (v_move rfl) fun a h => ?_
      obtain ⟨z24_67, ez24_67, hS⟩ := bv hS
      refine st1 h rfl rfl rfl (vB ez24_67 (v_not rfl)) fun a h => ?_
      refine c_nil hK ?_
      have h := h.only [0, 3, 4, 6, 24] (l' := [_, _, _, _, _]) rfl
      refine c_cond h rfl (fun ec68 => ?_) (fun ec68 => ?_)
      ·
       have hS := ifT ec68 hS
       refine c_lregion ?_
       refine st1 h rfl rfl rfl (v_move rfl) fun a h => ?_
       refine z_slice (enc := (eI .u8)) ([46] : List (Int)) h H Tryz.underlying82 Tryz.sizeOf5 Tryz.zeroValue5 rfl (zl := [.int .u8 0]) (by kernel_rfl) (plA_get 1 1) [_] [_] rfl rfl rfl rfl rfl fun a v26_69 Z w hsub X H r26_69 h => ?_
       obtain ⟨c71, hS⟩ := ck hS
       obtain ⟨z27_72, ez27_72, hS⟩ := bv hS
       refine z_appendS (enc := (eI .u8)) (out := s37.2.2.2) (data := [46]) h H 0 rfl Tryz.underlying82 app5 rfl rfl rfl r26_69 (fun _ => rfl) (fun _ _ => rfl) c71 rfl fun a v27_70 w H h => ?_
       rw [← ez27_72] at H
       have H : HZ w0 _ _ [_] _ := H
       refine st1 h rfl rfl rfl (v_assign rfl) fun a h => ?_
       refine c_lnil ?_
       refine hN66 _ _ ?_
       have h := h.only [0, 3, 4, 6] (l' := [_, _, _, _]) rfl
       refine c_lregion ?_
       refine st1 h rfl rfl rfl (v_assign rfl) fun a h => ?_
       refine c_lnil ?_
       exact hN49 _ _ ⟨_, (false, z27_72), _, hS, (h.only [0, 3, 4, 5, 6] (l' := [_, _, _, _, _]) rfl), H⟩
      ·
       have hS := ifF ec68 hS
       refine c_skip ?_
       refine hN66 _ _ ?_
       refine c_lregion ?_
       refine st1 h rfl rfl rfl (v_assign rfl) fun a h => ?_
       refine c_lnil ?_
       exact hN49 _ _ ⟨_, (false, s37.2.2.2), _, hS, (h.only [0, 3, 4, 5, 6] (l' := [_, _, _, _, _]) rfl), H⟩
     ·
      have hS := ifF ec65 hS
      refine c_skip ?_
      exact hN49 _ _ ⟨_, (s37.2.1, s37.2.2.2), _, hS, (h.only [0, 3, 4, 5, 6] (l' := [_, _, _, _, _]) rfl), H⟩
  ·
   have hS := ifF ec44 hS
   refine c_exit ?_
   refine hx0_40 _ _ ?_
   exact hN3 _ _ ⟨_, s37.2.2.2, _, hS, (h.only [0, 4] (l' := [_, _]) rfl), H⟩

theorem value_Show_ok {x0 : V} {res : (List UInt8)} {w0 : World} (hS : value_Show x0 = some res) (hG : GW w0) : Calls Tryz.prog 18 [.agg #[.int .i64 x0.k, .int .i64 x0.n, S x0.s]].toArray w0 (Ret fun v w => v = S res ∧ Ext w0 w) := by
 refine enter Tryz.func18 rfl rfl rfl fun Q a h hret0 hnor => ?_
 obtain ⟨Zi, Z, H⟩ : ∃ Zi Z, HZ w0 Zi Z [] w0 := ⟨_, _, HZ.start w0⟩
 have h := h.only [0] (l' := [_]) rfl
 unfold value_Show at hS
 refine c_region fun K hK => ?_
 refine z_box h H rfl [_, _, _] rfl rfl fun a p1_1 w X H h => ?_
 have H : HZ w0 _ _ [_] _ := H
 refine st1 h rfl rfl rfl (v_assign rfl) fun a h => ?_
 refine c_nil hK ?_
 refine c_seq _ (fun a w c => c) fun Q2 hN2 hO2 => ?_
 have hret2 := hO2.ret hret0
 refine c_region fun K hK => ?_
 refine st1 h rfl rfl rfl (v_fieldAddr rfl Tryz.underlying25 rfl Tryz.sizeOf3 rfl rfl) fun a h => ?_
 refine st1 h rfl rfl rfl (v_load1 rfl Tryz.isAgg3 (H.hp.get 0 rfl) rfl) fun a h => ?_
 refine c_nil hK ?_
 refine c_lblock fun Q3 hN3 hx0_3 hO3 => ?_
 have hret3 := hO3.ret hret2
 refine c_region fun K hK => ?_
 obtain ⟨z6_4, ez6_4, hS⟩ := bv hS
 refine st1 h rfl rfl rfl (vB ez6_4 (v_eq rfl rfl)) fun a h => ?_
 refine st1 h rfl rfl rfl (v_assign rfl) fun a h => ?_
 refine c_nil hK ?_
 have h := h.only [1, 4, 5] (l' := [_, _, _]) rfl
 refine c_cond h rfl (fun ec5 => ?_) (fun ec5 => ?_)
 ·
  have hS := ifT ec5 hS
  refine c_region fun K hK => ?_
  refine st1 h rfl rfl rfl (v_fieldAddr rfl Tryz.underlying25 rfl Tryz.sizeOf2 rfl rfl) fun a h => ?_
  refine st1 h rfl rfl rfl (v_load1 rfl Tryz.isAgg2 (H.hp.get 0 rfl) rfl) fun a h => ?_
  obtain ⟨y9_6, hy9_6, hS⟩ := bo hS
  refine st2v (T := Ext) (V := S y9_6) h rfl rfl rfl (d_call [_] rfl Tryz.call26 (num_Print_ok (x0 := x0.n) hy9_6)) fun w X a h => ?_
  have H := H.ext X
  refine st1 h rfl rfl rfl (v_assign rfl) fun a h => ?_
  refine c_nil hK ?_
  have h := h.only [2] (l' := [_]) rfl
  obtain rfl := so hS
  refine c_ret (hret3 _ _ (out1 h rfl rfl ?_))
  exact ⟨rfl, H.out⟩
 ·
  have hS := ifF ec5 hS
  refine c_region fun K hK => ?_
  obtain ⟨z11_7, ez11_7, hS⟩ := bv hS
  refine st1 h rfl rfl rfl (vB ez11_7 (v_eq rfl rfl)) fun a h => ?_
  refine st1 h rfl rfl rfl (v_assign rfl) fun a h => ?_
  refine c_nil hK ?_
  refine c_cond h rfl (fun ec8 => ?_) (fun ec8 => ?_)
  ·
   have hS := ifT ec8 hS
   refine c_region fun K hK => ?_
   refine st1 h rfl rfl rfl (v_fieldAddr rfl Tryz.underlying25 rfl Tryz.sizeOf9 rfl rfl) fun a h => ?_
   refine st1 h rfl rfl rfl (v_load1 rfl Tryz.isAgg9 (H.hp.get 0 rfl) rfl) fun a h => ?_
   refine st1 h rfl rfl rfl (v_assign rfl) fun a h => ?_
   refine c_nil hK ?_
   have h := h.only [2] (l' := [_]) rfl
   obtain rfl := so hS
   refine c_ret (hret3 _ _ (out1 h rfl rfl ?_))
   exact ⟨rfl, H.out⟩
  ·
   have hS := ifF ec8 hS
   refine c_region fun K hK => ?_
   obtain ⟨z15_9, ez15_9, hS⟩ := bv hS
   refine st1 h rfl rfl rfl (vB ez15_9 (v_eq rfl rfl)) fun a h => ?_
   refine st1 h rfl rfl rfl (v_assign rfl) fun a h => ?_
   refine c_nil hK ?_
   have h := h.only [1, 4, 14] (l' := [_, _, _]) rfl
   refine c_cond h rfl (fun ec10 => ?_) (fun ec10 => ?_)
   ·
    have hS := ifT ec10 hS
    refine c_seq _ (fun a w c => c) fun Q11 hN11 hO11 => ?_
    have hret11 := hO11.ret hret3
    have hx0_11 := hO11.exit (i := 0) rfl hx0_3
    refine c_region fun K hK => ?_
    refine st1 h rfl rfl rfl (v_fieldAddr rfl Tryz.underlying25 rfl Tryz.sizeOf2 rfl rfl) fun a h => ?_
    refine st1 h rfl rfl rfl (v_load1 rfl Tryz.isAgg2 (H.hp.get 0 rfl) rfl) fun a h => ?_
    obtain ⟨z18_12, ez18_12, hS⟩ := bv hS
    refine st1 h rfl rfl rfl (vB ez18_12 (v_eq rfl rfl)) fun a h => ?_
    refine c_nil hK ?_
    have h := h.only [18] (l' := [_]) rfl
    refine c_cond h rfl (fun ec13 => ?_) (fun ec13 => ?_)
    ·
     have hS := ifT ec13 hS
     refine c_region fun K hK => ?_
     refine st1 h rfl rfl rfl (v_assign rfl) fun a h => ?_
     refine c_nil hK ?_
     obtain rfl := so hS
     refine c_ret (hret11 _ _ (out1 h rfl rfl ?_))
     exact ⟨rfl, H.out⟩
    ·
     have hS := ifF ec13 hS
     refine c_skip ?_
     refine hN11 _ _ ?_
     refine c_region fun K hK => ?_
     refine st1 h rfl rfl rfl (v_assign rfl) fun a h => ?_
     refine c_nil hK ?_
     obtain rfl := so hS
     refine c_ret (hret3 _ _ (out1 h rfl rfl ?_))
     exact ⟨rfl, H.out⟩
   ·
    have hS := ifF ec10 hS
    refine c_region fun K hK => ?_
    obtain ⟨z20_14, ez20_14, hS⟩ := bv hS
    refine st1 h rfl rfl rfl (vB ez20_14 (v_eq rfl rfl)) fun a h => ?_
    refine st1 h rfl rfl rfl (v_assign rfl) fun a h => ?_
    refine c_nil hK ?_
    refine c_cond h rfl (fun ec15 => ?_) (fun ec15 => ?_)
    ·
     have hS := ifT ec15 hS
     refine c_region fun K hK => ?_
     refine st1 h rfl rfl rfl (v_fieldAddr rfl Tryz.underlying25 rfl Tryz.sizeOf2 rfl rfl) fun a h => ?_
     refine st1 h rfl rfl rfl (v_load1 rfl Tryz.isAgg2 (H.hp.get 0 rfl) rfl) fun a h => ?_
     obtain ⟨y23_16, hy23_16, hS⟩ := bo hS
     refine st2v (T := Ext) (V := S y23_16) h rfl rfl rfl (d_call [_] rfl Tryz.call42 (value_ErrorName_ok (x0 := x0.n) hy23_16 (hG.ext H.out))) fun w X a h => ?_
     have H := H.ext X
     refine st1 h rfl rfl rfl (v_assign rfl) fun a h => ?_
     refine c_nil hK ?_
     have h := h.only [2] (l' := [_]) rfl
     obtain rfl := so hS
     refine c_ret (hret3 _ _ (out1 h rfl rfl ?_))
     exact ⟨rfl, H.out⟩
    ·
     have hS := ifF ec15 hS
     refine c_skip ?_
     refine hN3 _ _ ?_
     refine hN2 _ _ ?_
     have h := h.only [] (l' := []) rfl
     refine c_region fun K hK => ?_
     refine st1 h rfl rfl rfl (v_assign rfl) fun a h => ?_
     refine c_nil hK ?_
     obtain rfl := so hS
     refine c_ret (hret0 _ _ (out1 h rfl rfl ?_))
     exact ⟨rfl, H.out⟩

theorem value_ToText_ok {x0 : V} {res : V} {w0 : World} (hS : value_ToText x0 = some res) (hG : GW w0) : Calls Tryz.prog 59 [.agg #[.int .i64 x0.k, .int .i64 x0.n, S x0.s]].toArray w0 (Ret fun v w => v = .agg #[.int .i64 res.k, .int .i64 res.n, S res.s] ∧ Ext w0 w) := by
 refine enter Tryz.func59 rfl rfl rfl fun Q a h hret0 hnor => ?_
 obtain ⟨Zi, Z, H⟩ : ∃ Zi Z, HZ w0 Zi Z [] w0 := ⟨_, _, HZ.start w0⟩
 have h := h.only [0] (l' := [_]) rfl
 unfold value_ToText at hS
 refine c_region fun K hK => ?_
 refine z_box h H rfl [_, _, _] rfl rfl fun a p1_1 w X H h => ?_
 have H : HZ w0 _ _ [_] _ := H
 refine z_alloc h H Tryz.zeroValue25 [_, _, _] rfl rfl fun a p2_2 w X H h => ?_
 have H : HZ w0 _ _ [_, _] _ := H
 refine c_nil hK ?_
 refine c_seq _ (fun a w c => c) fun Q3 hN3 hO3 => ?_
 have hret3 := hO3.ret hret0
 refine c_region fun K hK => ?_
 refine st1 h rfl rfl rfl (v_fieldAddr rfl Tryz.underlying25 rfl Tryz.sizeOf3 rfl rfl) fun a h => ?_
 refine st1 h rfl rfl rfl (v_load1 rfl Tryz.isAgg3 (H.hp.get 0 rfl) rfl) fun a h => ?_
 obtain ⟨z5_4, ez5_4, hS⟩ := bv hS
 refine st1 h rfl rfl rfl (vB ez5_4 (v_eq rfl rfl)) fun a h => ?_
 refine c_nil hK ?_
 refine c_cond h rfl (fun ec5 => ?_) (fun ec5 => ?_)
 ·
  have hS := ifT ec5 hS
  refine c_region fun K hK => ?_
  refine st1 h rfl rfl rfl (v_loadA [_, _, _] rfl Tryz.isAgg25 Tryz.sizeOf25 (H.hp.get 0 rfl) rfl rfl) fun a h => ?_
  refine z_store h H 1 rfl rfl rfl Tryz.sizeOf25 [_, _, _] rfl rfl rfl (by simp) [_, _, _] rfl (hl' := [_, _]) rfl fun w H => ?_
  refine c_nil hK ?_
  have h := h.only [2] (l' := [_]) rfl
  obtain rfl := so hS
  refine c_ret (hret3 _ _ (out1 h rfl ⟨_, rfl, run_loadVar_agg (vs := [_, _, _]) Tryz.isAgg25 Tryz.sizeOf25 (H.hp.get 1 rfl) rfl rfl⟩ ?_))
  exact ⟨rfl, H.out⟩
 ·
  have hS := ifF ec5 hS
  refine c_skip ?_
  refine hN3 _ _ ?_
  have h := h.only [1, 2] (l' := [_, _]) rfl
  refine c_region fun K hK => ?_
  refine st1 h rfl rfl rfl (v_loadA [_, _, _] rfl Tryz.isAgg25 Tryz.sizeOf25 (H.hp.get 0 rfl) rfl rfl) fun a h => ?_
  obtain ⟨y8_6, hy8_6, hS⟩ := bo hS
  refine st2v (T := Ext) (V := S y8_6) h rfl rfl rfl (d_call [_] rfl Tryz.call18 (value_Show_ok (x0 := x0) hy8_6 (hG.ext H.out))) fun w X a h => ?_
  have H := H.ext X
  obtain ⟨y9_7, hy9_7, hS⟩ := bo hS
  refine st2v (T := Ext) (V := .agg #[.int .i64 y9_7.k, .int .i64 y9_7.n, S y9_7.s]) h rfl rfl rfl (d_call [_] rfl Tryz.call25 (value_Text_ok (x0 := y8_6) hy9_7)) fun w X a h => ?_
  have H := H.ext X
  refine z_store h H 1 rfl rfl rfl Tryz.sizeOf25 [_, _, _] rfl rfl rfl (by simp) [_, _, _] rfl (hl' := [_, _]) rfl fun w H => ?_
  refine c_nil hK ?_
  have h := h.only [2] (l' := [_]) rfl
  obtain rfl := so hS
  refine c_ret (hret0 _ _ (out1 h rfl ⟨_, rfl, run_loadVar_agg (vs := [_, _, _]) Tryz.isAgg25 Tryz.sizeOf25 (H.hp.get 1 rfl) rfl rfl⟩ ?_))
  exact ⟨rfl, H.out⟩

theorem maths_power_ok {x0 : Int} {x1 : Int} {res : V} {w0 : World} (hS : maths_power x0 x1 = some res) : Calls Tryz.prog 40 [.int .i64 x0, .int .i64 x1].toArray w0 (Ret fun v w => v = .agg #[.int .i64 res.k, .int .i64 res.n, S res.s] ∧ Ext w0 w) := by
 refine enter Tryz.func40 rfl rfl rfl fun Q a h hret0 hnor => ?_
 obtain ⟨Zi, Z, H⟩ : ∃ Zi Z, HZ w0 Zi Z [] w0 := ⟨_, _, HZ.start w0⟩
 have h := h.only [0, 1] (l' := [_, _]) rfl
 unfold maths_power at hS
 refine c_region fun K hK => ?_
 refine z_alloc h H Tryz.zeroValue25 [_, _, _] rfl rfl fun a p4_1 w X H h => ?_
 have H : HZ w0 _ _ [_] _ := H
 refine c_nil hK ?_
 refine c_region fun K hK => ?_
 obtain ⟨y8_2, hy8_2, hS⟩ := bo hS
 refine st2v (T := Ext) (V := .tuple #[.int .i64 y8_2.1, .bool y8_2.2]) h rfl rfl rfl (d_call [_] rfl Tryz.call43 (num_Of_ok (x0 := (1 : Int)) hy8_2)) fun w X a h => ?_
 have H := H.ext X
 refine st1 h rfl rfl rfl (v_move rfl) fun a h => ?_
 refine st1 h rfl rfl rfl (v_extract rfl rfl) fun a h => ?_
 refine st1 h rfl rfl rfl (v_extract rfl rfl) fun a h => ?_
 refine st1 h rfl rfl rfl (v_assign rfl) fun a h => ?_
 refine st1 h rfl rfl rfl (v_assign rfl) fun a h => ?_
 refine c_nil hK ?_
 have h := h.only [0, 1, 4, 5, 6] (l' := [_, _, _, _, _]) rfl
 obtain ⟨J4, eJ4, hS⟩ := bv hS
 refine c_seq (fun a w => ∃ (Z : FZ) (s4 : Int × Bool), J4 s4 = some res ∧ Fr 25 [(4, .pointer (some ⟨p4_1, 0, none⟩)), (5, .int .i64 s4.1), (6, .bool s4.2)] a ∧ HZ w0 Zi Z [.blk p4_1 (Cel [.int .i64 0, .int .i64 0, S []] 25)] w) ?_ fun Q3 hN3 hO3 => ?_
 ·
  rintro a w ⟨Z, s4, hS, h, H⟩
  subst eJ4
  refine c_region fun K hK => ?_
  refine st1 h rfl rfl rfl (v_move rfl) fun a h => ?_
  refine st1 h rfl rfl rfl (v_move rfl) fun a h => ?_
  obtain ⟨y24_5, hy24_5, hS⟩ := bo hS
  refine st2v (T := Ext) (V := .agg #[.int .i64 y24_5.k, .int .i64 y24_5.n, S y24_5.s]) h rfl rfl rfl (d_call [_, _] rfl Tryz.call35 (value_Made_ok (x0 := s4.1) (x1 := s4.2) hy24_5)) fun w X a h => ?_
  have H := H.ext X
  refine z_store h H 0 rfl rfl rfl Tryz.sizeOf25 [_, _, _] rfl rfl rfl (by simp) [_, _, _] rfl (hl' := [_]) rfl fun w H => ?_
  refine c_nil hK ?_
  have h := h.only [4] (l' := [_]) rfl
  obtain rfl := so hS
  refine c_ret (hret0 _ _ (out1 h rfl ⟨_, rfl, run_loadVar_agg (vs := [_, _, _]) Tryz.isAgg25 Tryz.sizeOf25 (H.hp.get 0 rfl) rfl rfl⟩ ?_))
  exact ⟨rfl, H.out⟩
 ·
  have hret3 := hO3.ret hret0
  refine c_region fun K hK => ?_
  refine st1 h rfl rfl rfl (v_move rfl) fun a h => ?_
  refine st1 h rfl rfl rfl (v_move rfl) fun a h => ?_
  refine c_nil hK ?_
  refine c_lblock fun Q6 hN6 hx0_6 hO6 => ?_
  have hret6 := hO6.ret hret3
  obtain ⟨B7, eB7, hS⟩ := bv hS
  refine c_loopN (fun mu_ a w => ∃ (Z : FZ) (s7 : Int × Bool × Int), loopF B7 mu_ s7 = some res ∧ Fr 25 [(0, .int .i64 x0), (4, .pointer (some ⟨p4_1, 0, none⟩)), (5, .int .i64 s7.1), (6, .bool s7.2.1), (11, .int .i64 x1), (12, .int .i64 s7.2.2)] a ∧ HZ w0 Zi Z [.blk p4_1 (Cel [.int .i64 0, .int .i64 0, S []] 25)] w) KK ⟨_, (y8_2.1, y8_2.2, 0), hS, (h.only [0, 4, 5, 6, 11, 12] (l' := [_, _, _, _, _, _]) rfl), H⟩ ?_
  rintro mu_ a w ⟨Z, s7, hS, h, H⟩ Q8 hN8 hO8
  obtain ⟨mu_, rfl, n7, en7, hS⟩ := lpX eB7 hS
  have hret8 := hO8.ret hret6
  have hx0_8 := hO8.exit (i := 0) rfl hx0_6
  refine c_region fun K hK => ?_
  obtain ⟨z13_9, ez13_9, hS⟩ := bv hS
  refine st1 h rfl rfl rfl (vB ez13_9 (v_lt rfl rfl)) fun a h => ?_
  refine c_nil hK ?_
  refine c_seq _ (fun a w c => c) fun Q10 hN10 hO10 => ?_
  have hret10 := hO10.ret hret8
  have hx0_10 := hO10.exit (i := 0) rfl hx0_8
  refine c_cond h rfl (fun ec11 => ?_) (fun ec11 => ?_)
  ·
   have hS := ifT ec11 hS
   refine c_skip ?_
   refine hN10 _ _ ?_
   refine c_block _ (fun a w c => c) fun Q12 hN12 hx1_12 hO12 => ?_
   have hret12 := hO12.ret hret8
   have hx0_12 := hO12.exit (i := 0) rfl hx0_8
   refine c_region fun K hK => ?_
   refine st1 h rfl rfl rfl (v_move rfl) fun a h => ?_
   refine c_nil hK ?_
   refine c_cond h rfl (fun ec13 => ?_) (fun ec13 => ?_)
   ·
    have hS := ifT ec13 hS
    refine c_lregion ?_
    refine st1 h rfl rfl rfl (v_move rfl) fun a h => ?_
    refine st1 h rfl rfl rfl (v_move rfl) fun a h => ?_
    obtain ⟨y18_14, hy18_14, hS⟩ := bo hS
    refine st2v (T := Ext) (V := .tuple #[.int .i64 y18_14.1, .bool y18_14.2]) h rfl rfl rfl (d_call [_, _] rfl Tryz.call55 (num_Mul_ok (x0 := s7.1) (x1 := x0) hy18_14)) fun w X a h => ?_
    have H := H.ext X
    refine st1 h rfl rfl rfl (v_move rfl) fun a h => ?_
    refine st1 h rfl rfl rfl (v_extract rfl rfl) fun a h => ?_
    refine st1 h rfl rfl rfl (v_extract rfl rfl) fun a h => ?_
    refine st1 h rfl rfl rfl (v_assign rfl) fun a h => ?_
    refine st1 h rfl rfl rfl (v_assign rfl) fun a h => ?_
    refine c_lnil ?_
    refine hN12 _ _ ?_
    have h := h.only [0, 4, 5, 6, 11, 12] (l' := [_, _, _, _, _, _]) rfl
    refine c_lregion ?_
    obtain ⟨z21_15, ez21_15, hS⟩ := bv hS
    refine st1 h rfl rfl rfl (vI ez21_15 (v_addw rfl rfl)) fun a h => ?_
    refine st1 h rfl rfl rfl (v_move rfl) fun a h => ?_
    refine c_lnil ?_
    exact hN8 _ _ _ (Nat.lt_succ_self _) ⟨_, (y18_14.1, y18_14.2, z21_15), lpN en7 hS, (h.only [0, 4, 5, 6, 11, 12] (l' := [_, _, _, _, _, _]) rfl), H⟩
   ·
    have hS := ifF ec13 hS
    refine c_skip ?_
    refine hN12 _ _ ?_
    refine c_lregion ?_
    obtain ⟨z21_16, ez21_16, hS⟩ := bv hS
    refine st1 h rfl rfl rfl (vI ez21_16 (v_addw rfl rfl)) fun a h => ?_
    refine st1 h rfl rfl rfl (v_move rfl) fun a h => ?_
    refine c_lnil ?_
    exact hN8 _ _ _ (Nat.lt_succ_self _) ⟨_, (s7.1, s7.2.1, z21_16), lpN en7 hS, (h.only [0, 4, 5, 6, 11, 12] (l' := [_, _, _, _, _, _]) rfl), H⟩
  ·
   have hS := ifF ec11 hS
   refine c_exit ?_
   refine hx0_10 _ _ ?_
   exact hN3 _ _ ⟨_, (s7.1, s7.2.1), hS, (h.only [4, 5, 6] (l' := [_, _, _]) rfl), H⟩

theorem lists_Product_ok {x0 : List (V)} {res : V} {w0 : World} (hS : lists_Product x0 = some res) {xv0 : Value} (rp0 : RdZ (hz w0) xv0 3 vL x0) : Calls Tryz.prog 63 [xv0].toArray w0 (Ret fun v w => v = .agg #[.int .i64 res.k, .int .i64 res.n, S res.s] ∧ Ext w0 w) := by
 refine enter Tryz.func63 rfl rfl rfl fun Q a h hret0 hnor => ?_
 obtain ⟨Zi, Z, H, rp0⟩ : ∃ Zi Z, HZ w0 Zi Z [] w0 ∧ RdZ Z xv0 3 vL x0 := ⟨_, _, HZ.start w0, rp0⟩
 have h := h.only [0] (l' := [_]) rfl
 unfold lists_Product at hS
 refine c_region fun K hK => ?_
 refine z_alloc h H Tryz.zeroValue25 [_, _, _] rfl rfl fun a p2_1 w X H h => ?_
 have H : HZ w0 _ _ [_] _ := H
 refine c_nil hK ?_
 refine c_region fun K hK => ?_
 refine st1 h rfl rfl rfl (v_move rfl) fun a h => ?_
 obtain ⟨y9_2, hy9_2, hS⟩ := bo hS
 refine z_callR (data := y9_2) h H rfl rfl rfl (d_call [_] rfl Tryz.call92 (lists_numbers_ok (x0 := x0) hy9_2 (rp0.hz H.zin))) fun v9_3 Z w hsub X H r9_3 a h => ?_
 have rp0 := rp0.sub hsub
 refine st1 h rfl rfl rfl (v_assign rfl) fun a h => ?_
 refine c_nil hK ?_
 refine c_seq _ (fun a w c => c) fun Q4 hN4 hO4 => ?_
 have hret4 := hO4.ret hret0
 refine c_region fun K hK => ?_
 refine st1 h rfl rfl rfl (v_move rfl) fun a h => ?_
 refine st1 h rfl rfl rfl (v_len Tryz.underlying52 rfl (r9_3.at H.zin)) fun a h => ?_
 obtain ⟨z12_5, ez12_5, hS⟩ := bv hS
 refine st1 h rfl rfl rfl (vB ez12_5 (v_eq rfl rfl)) fun a h => ?_
 refine c_nil hK ?_
 have h := h.only [2, 3, 12] (l' := [_, _, _]) rfl
 refine c_cond h rfl (fun ec6 => ?_) (fun ec6 => ?_)
 ·
  have hS := ifT ec6 hS
  refine c_region fun K hK => ?_
  obtain ⟨y13_7, hy13_7, hS⟩ := bo hS
  refine st2v (T := Ext) (V := .agg #[.int .i64 y13_7.k, .int .i64 y13_7.n, S y13_7.s]) h rfl rfl rfl (d_call [_] rfl Tryz.call22 (value_Num_ok (x0 := (0 : Int)) hy13_7)) fun w X a h => ?_
  have H := H.ext X
  refine z_store h H 0 rfl rfl rfl Tryz.sizeOf25 [_, _, _] rfl rfl rfl (by simp) [_, _, _] rfl (hl' := [_]) rfl fun w H => ?_
  refine c_nil hK ?_
  obtain rfl := so hS
  refine c_ret (hret4 _ _ (out1 h rfl ⟨_, rfl, run_loadVar_agg (vs := [_, _, _]) Tryz.isAgg25 Tryz.sizeOf25 (H.hp.get 0 rfl) rfl rfl⟩ ?_))
  exact ⟨rfl, H.out⟩
 ·
  have hS := ifF ec6 hS
  refine c_skip ?_
  refine hN4 _ _ ?_
  refine c_region fun K hK => ?_
  refine st1 h rfl rfl rfl (v_move rfl) fun a h => ?_
  obtain ⟨c8, hS⟩ := ck hS
  obtain ⟨z15_9, ez15_9, hS⟩ := bv hS
  refine st_idx h Tryz.underlying52 Tryz.sizeOf2 rfl rfl (r9_3.at H.zin) (fun _ => rfl) z15_9 c8.1 (by rw [ez15_9]; exact gel_some c8) rfl fun a v15 A15 h => ?_
  refine st1 h rfl rfl rfl (v_loadAt1 rfl A15 Tryz.isAgg2 rfl) fun a h => ?_
  refine st1 h rfl rfl rfl (v_assign rfl) fun a h => ?_
  refine st1 h rfl rfl rfl (v_assign rfl) fun a h => ?_
  refine c_nil hK ?_
  have h := h.only [2, 3, 4, 5] (l' := [_, _, _, _]) rfl
  obtain ⟨J11, eJ11, hS⟩ := bv hS
  refine c_seq (fun a w => ∃ (Z : FZ) (s11 : Int × Bool), J11 s11 = some res ∧ Fr 35 [(2, .pointer (some ⟨p2_1, 0, none⟩)), (4, .int .i64 s11.1), (5, .bool s11.2)] a ∧ HZ w0 Zi Z [.blk p2_1 (Cel [.int .i64 0, .int .i64 0, S []] 25)] w) ?_ fun Q10 hN10 hO10 => ?_
  ·
   rintro a w ⟨Z, s11, hS, h, H⟩
   subst eJ11
   refine c_region fun K hK => ?_
   refine st1 h rfl rfl rfl (v_move rfl) fun a h => ?_
   refine st1 h rfl rfl rfl (v_move rfl) fun a h => ?_
   obtain ⟨y34_12, hy34_12, hS⟩ := bo hS
   refine st2v (T := Ext) (V := .agg #[.int .i64 y34_12.k, .int .i64 y34_12.n, S y34_12.s]) h rfl rfl rfl (d_call [_, _] rfl Tryz.call35 (value_Made_ok (x0 := s11.1) (x1 := s11.2) hy34_12)) fun w X a h => ?_
   have H := H.ext X
   refine z_store h H 0 rfl rfl rfl Tryz.sizeOf25 [_, _, _] rfl rfl rfl (by simp) [_, _, _] rfl (hl' := [_]) rfl fun w H => ?_
   refine c_nil hK ?_
   have h := h.only [2] (l' := [_]) rfl
   obtain rfl := so hS
   refine c_ret (hret0 _ _ (out1 h rfl ⟨_, rfl, run_loadVar_agg (vs := [_, _, _]) Tryz.isAgg25 Tryz.sizeOf25 (H.hp.get 0 rfl) rfl rfl⟩ ?_))
   exact ⟨rfl, H.out⟩
  ·
   have hret10 := hO10.ret hret0
   refine c_region fun K hK => ?_
   refine st1 h rfl rfl rfl (v_move rfl) fun a h => ?_
   obtain ⟨c13, hS⟩ := ck hS
   obtain ⟨z18_14, ez18_14, hS⟩ := bv hS
   refine z_part_l (enc := (eI .i64)) (sz := 1) (fun _ => rfl) h Tryz.underlying52 Tryz.sizeOf2 rfl rfl r9_3 c13 rfl fun a v18_15 r18_15 h => ?_
   rw [← ez18_14] at r18_15
   refine st1 h rfl rfl rfl (v_len Tryz.underlying52 rfl (r18_15.at H.zin)) fun a h => ?_
   refine st1 h rfl rfl rfl (v_move rfl) fun a h => ?_
   refine c_nil hK ?_
   refine c_lblock fun Q16 hN16 hx0_16 hO16 => ?_
   have hret16 := hO16.ret hret10
   obtain ⟨B17, eB17, hS⟩ := bv hS
   refine c_loopN (fun mu_ a w => ∃ (Z : FZ) (s17 : Int × Bool × Int), loopF B17 mu_ s17 = some res ∧ Fr 35 [(2, .pointer (some ⟨p2_1, 0, none⟩)), (4, .int .i64 s17.1), (5, .bool s17.2.1), (18, v18_15), (19, .int .i64 (z18_14.length : Int)), (20, .int .i64 s17.2.2)] a ∧ HZ w0 Zi Z [.blk p2_1 (Cel [.int .i64 0, .int .i64 0, S []] 25)] w ∧ RdZ Z v18_15 1 (eI .i64) z18_14) KK ⟨_, (z15_9, true, 0), hS, (h.only [2, 4, 5, 18, 19, 20] (l' := [_, _, _, _, _, _]) rfl), H, r18_15⟩ ?_
   rintro mu_ a w ⟨Z, s17, hS, h, H, r18_15⟩ Q18 hN18 hO18
   obtain ⟨mu_, rfl, n17, en17, hS⟩ := lpX eB17 hS
   have hret18 := hO18.ret hret16
   have hx0_18 := hO18.exit (i := 0) rfl hx0_16
   refine c_region fun K hK => ?_
   obtain ⟨z21_19, ez21_19, hS⟩ := bv hS
   refine st1 h rfl rfl rfl (vB ez21_19 (v_lt rfl rfl)) fun a h => ?_
   refine c_nil hK ?_
   refine c_seq _ (fun a w c => c) fun Q20 hN20 hO20 => ?_
   have hret20 := hO20.ret hret18
   have hx0_20 := hO20.exit (i := 0) rfl hx0_18
   refine c_cond h rfl (fun ec21 => ?_) (fun ec21 => ?_)
   ·
    have hS := ifT ec21 hS
    refine c_skip ?_
    refine hN20 _ _ ?_
    refine c_block _ (fun a w c => c) fun Q22 hN22 hx1_22 hO22 => ?_
    have hret22 := hO22.ret hret18
    have hx0_22 := hO22.exit (i := 0) rfl hx0_18
    refine c_region fun K hK => ?_
    obtain ⟨c23, hS⟩ := ck hS
    obtain ⟨z22_24, ez22_24, hS⟩ := bv hS
    refine st_idx h Tryz.underlying52 Tryz.sizeOf2 rfl rfl (r18_15.at H.zin) (fun _ => rfl) z22_24 c23.1 (by rw [ez22_24]; exact gel_some c23) rfl fun a v22 A22 h => ?_
    refine st1 h rfl rfl rfl (v_loadAt1 rfl A22 Tryz.isAgg2 rfl) fun a h => ?_
    refine st1 h rfl rfl rfl (v_assign rfl) fun a h => ?_
    refine c_nil hK ?_
    refine c_region fun K hK => ?_
    refine st1 h rfl rfl rfl (v_move rfl) fun a h => ?_
    refine c_nil hK ?_
    refine c_cond h rfl (fun ec25 => ?_) (fun ec25 => ?_)
    ·
     have hS := ifT ec25 hS
     refine c_lregion ?_
     refine st1 h rfl rfl rfl (v_move rfl) fun a h => ?_
     refine st1 h rfl rfl rfl (v_move rfl) fun a h => ?_
     obtain ⟨y28_26, hy28_26, hS⟩ := bo hS
     refine st2v (T := Ext) (V := .tuple #[.int .i64 y28_26.1, .bool y28_26.2]) h rfl rfl rfl (d_call [_, _] rfl Tryz.call55 (num_Mul_ok (x0 := s17.1) (x1 := z22_24) hy28_26)) fun w X a h => ?_
     have H := H.ext X
     have A22 := At.ext A22 X
     refine st1 h rfl rfl rfl (v_move rfl) fun a h => ?_
     refine st1 h rfl rfl rfl (v_extract rfl rfl) fun a h => ?_
     refine st1 h rfl rfl rfl (v_extract rfl rfl) fun a h => ?_
     refine st1 h rfl rfl rfl (v_assign rfl) fun a h => ?_
     refine st1 h rfl rfl rfl (v_assign rfl) fun a h => ?_
     refine c_lnil ?_
     refine hN22 _ _ ?_
     have h := h.only [2, 4, 5, 18, 19, 20] (l' := [_, _, _, _, _, _]) rfl
     refine c_lregion ?_
     obtain ⟨z31_27, ez31_27, hS⟩ := bv hS
     refine st1 h rfl rfl rfl (vI ez31_27 (v_addw rfl rfl)) fun a h => ?_
     refine st1 h rfl rfl rfl (v_move rfl) fun a h => ?_
     refine c_lnil ?_
     exact hN18 _ _ _ (Nat.lt_succ_self _) ⟨_, (y28_26.1, y28_26.2, z31_27), lpN en17 hS, (h.only [2, 4, 5, 18, 19, 20] (l' := [_, _, _, _, _, _]) rfl), H, r18_15⟩
    ·
     have hS := ifF ec25 hS
     refine c_skip ?_
     refine hN22 _ _ ?_
     have h := h.only [2, 4, 5, 18, 19, 20] (l' := [_, _, _, _, _, _]) rfl
     refine c_lregion ?_
     obtain ⟨z31_28, ez31_28, hS⟩ := bv hS
     refine st1 h rfl rfl rfl (vI ez31_28 (v_addw rfl rfl)) fun a h => ?_
     refine st1 h rfl rfl rfl (v_move rfl) fun a h => ?_
     refine c_lnil ?_
     exact hN18 _ _ _ (Nat.lt_succ_self _) ⟨_, (s17.1, s17.2.1, z31_28), lpN en17 hS, (h.only [2, 4, 5, 18, 19, 20] (l' := [_, _, _, _, _, _]) rfl), H, r18_15⟩
   ·
    have hS := ifF ec21 hS
    refine c_exit ?_
    refine hx0_20 _ _ ?_
    exact hN10 _ _ ⟨_, (s17.1, s17.2.1), hS, (h.only [2, 4, 5] (l' := [_, _, _]) rfl), H⟩

theorem lists_Average_ok {x0 : List (V)} {res : V} {w0 : World} (hS : lists_Average x0 = some res) {xv0 : Value} (rp0 : RdZ (hz w0) xv0 3 vL x0) : Calls Tryz.prog 65 [xv0].toArray w0 (Ret fun v w => v = .agg #[.int .i64 res.k, .int .i64 res.n, S res.s] ∧ Ext w0 w) := by
 refine enter Tryz.func65 rfl rfl rfl fun Q a h hret0 hnor => ?_
 obtain ⟨Zi, Z, H, rp0⟩ : ∃ Zi Z, HZ w0 Zi Z [] w0 ∧ RdZ Z xv0 3 vL x0 := ⟨_, _, HZ.start w0, rp0⟩
 have h := h.only [0] (l' := [_]) rfl
 unfold lists_Average at hS
 refine c_region fun K hK => ?_
 refine z_alloc h H Tryz.zeroValue25 [_, _, _] rfl rfl fun a p2_1 w X H h => ?_
 have H : HZ w0 _ _ [_] _ := H
 refine c_nil hK ?_
 refine c_region fun K hK => ?_
 refine st1 h rfl rfl rfl (v_move rfl) fun a h => ?_
 obtain ⟨y6_2, hy6_2, hS⟩ := bo hS
 refine st2v (T := Ext) (V := .agg #[.int .i64 y6_2.k, .int .i64 y6_2.n, S y6_2.s]) h rfl rfl rfl (d_call [_] rfl Tryz.call62 (lists_Sum_ok (x0 := x0) hy6_2 (rp0.hz H.zin))) fun w X a h => ?_
 have H := H.ext X
 refine z_alloc h H Tryz.zeroValue25 [_, _, _] rfl rfl fun a p3_3 w X H h => ?_
 have H : HZ w0 _ _ [_, _] _ := H
 refine z_store h H 1 rfl rfl rfl Tryz.sizeOf25 [_, _, _] rfl rfl rfl (by simp) [_, _, _] rfl (hl' := [_, _]) rfl fun w H => ?_
 refine c_nil hK ?_
 refine c_region fun K hK => ?_
 refine st1 h rfl rfl rfl (v_move rfl) fun a h => ?_
 obtain ⟨y8_4, hy8_4, hS⟩ := bo hS
 refine z_callR (data := y8_4) h H rfl rfl rfl (d_call [_] rfl Tryz.call92 (lists_numbers_ok (x0 := x0) hy8_4 (rp0.hz H.zin))) fun v8_5 Z w hsub X H r8_5 a h => ?_
 have rp0 := rp0.sub hsub
 refine st1 h rfl rfl rfl (v_len Tryz.underlying52 rfl (r8_5.at H.zin)) fun a h => ?_
 refine st1 h rfl rfl rfl (v_assign rfl) fun a h => ?_
 refine c_nil hK ?_
 have h := h.only [2, 3, 4] (l' := [_, _, _]) rfl
 refine c_seq _ (fun a w c => c) fun Q6 hN6 hO6 => ?_
 have hret6 := hO6.ret hret0
 refine c_region fun K hK => ?_
 refine st1 h rfl rfl rfl (v_move rfl) fun a h => ?_
 obtain ⟨z11_7, ez11_7, hS⟩ := bv hS
 refine st1 h rfl rfl rfl (vB ez11_7 (v_eq rfl rfl)) fun a h => ?_
 refine c_nil hK ?_
 refine c_cond h rfl (fun ec8 => ?_) (fun ec8 => ?_)
 ·
  have hS := ifT ec8 hS
  refine c_region fun K hK => ?_
  obtain ⟨y12_9, hy12_9, hS⟩ := bo hS
  refine st2v (T := Ext) (V := .agg #[.int .i64 y12_9.k, .int .i64 y12_9.n, S y12_9.s]) h rfl rfl rfl (d_call [_] rfl Tryz.call13 (value_Fail_ok (x0 := (1 : Int)) hy12_9)) fun w X a h => ?_
  have H := H.ext X
  refine z_store h H 0 rfl rfl rfl Tryz.sizeOf25 [_, _, _] rfl rfl rfl (by simp) [_, _, _] rfl (hl' := [_, _]) rfl fun w H => ?_
  refine c_nil hK ?_
  have h := h.only [2] (l' := [_]) rfl
  obtain rfl := so hS
  refine c_ret (hret6 _ _ (out1 h rfl ⟨_, rfl, run_loadVar_agg (vs := [_, _, _]) Tryz.isAgg25 Tryz.sizeOf25 (H.hp.get 0 rfl) rfl rfl⟩ ?_))
  exact ⟨rfl, H.out⟩
 ·
  have hS := ifF ec8 hS
  refine c_skip ?_
  refine hN6 _ _ ?_
  refine c_seq _ (fun a w c => c) fun Q10 hN10 hO10 => ?_
  have hret10 := hO10.ret hret0
  refine c_region fun K hK => ?_
  refine st1 h rfl rfl rfl (v_fieldAddr rfl Tryz.underlying25 rfl Tryz.sizeOf3 rfl rfl) fun a h => ?_
  refine st1 h rfl rfl rfl (v_load1 rfl Tryz.isAgg3 (H.hp.get 1 rfl) rfl) fun a h => ?_
  obtain ⟨z15_11, ez15_11, hS⟩ := bv hS
  refine st1 h rfl rfl rfl (vB ez15_11 (v_eq rfl rfl)) fun a h => ?_
  refine c_nil hK ?_
  have h := h.only [2, 3, 4, 15] (l' := [_, _, _, _]) rfl
  refine c_cond h rfl (fun ec12 => ?_) (fun ec12 => ?_)
  ·
   have hS := ifT ec12 hS
   refine c_region fun K hK => ?_
   refine st1 h rfl rfl rfl (v_loadA [_, _, _] rfl Tryz.isAgg25 Tryz.sizeOf25 (H.hp.get 1 rfl) rfl rfl) fun a h => ?_
   refine z_store h H 0 rfl rfl rfl Tryz.sizeOf25 [_, _, _] rfl rfl rfl (by simp) [_, _, _] rfl (hl' := [_, _]) rfl fun w H => ?_
   refine c_nil hK ?_
   have h := h.only [2] (l' := [_]) rfl
   obtain rfl := so hS
   refine c_ret (hret10 _ _ (out1 h rfl ⟨_, rfl, run_loadVar_agg (vs := [_, _, _]) Tryz.isAgg25 Tryz.sizeOf25 (H.hp.get 0 rfl) rfl rfl⟩ ?_))
   exact ⟨rfl, H.out⟩
  ·
   have hS := ifF ec12 hS
   refine c_skip ?_
   refine hN10 _ _ ?_
   refine c_region fun K hK => ?_
   refine st1 h rfl rfl rfl (v_fieldAddr rfl Tryz.underlying25 rfl Tryz.sizeOf2 rfl rfl) fun a h => ?_
   refine st1 h rfl rfl rfl (v_load1 rfl Tryz.isAgg2 (H.hp.get 1 rfl) rfl) fun a h => ?_
   refine st1 h rfl rfl rfl (v_move rfl) fun a h => ?_
   obtain ⟨z20_13, ez20_13, hS⟩ := bv hS
   refine st1 h rfl rfl rfl (vI ez20_13 (v_mulw rfl rfl)) fun a h => ?_
   obtain ⟨y21_14, hy21_14, hS⟩ := bo hS
   refine st2v (T := Ext) (V := .tuple #[.int .i64 y21_14.1, .bool y21_14.2]) h rfl rfl rfl (d_call [_, _] rfl Tryz.call56 (num_Quo_ok (x0 := y6_2.n) (x1 := z20_13) hy21_14)) fun w X a h => ?_
   have H := H.ext X
   refine st1 h rfl rfl rfl (v_extract rfl rfl) fun a h => ?_
   refine st1 h rfl rfl rfl (v_extract rfl rfl) fun a h => ?_
   obtain ⟨y24_15, hy24_15, hS⟩ := bo hS
   refine st2v (T := Ext) (V := .agg #[.int .i64 y24_15.k, .int .i64 y24_15.n, S y24_15.s]) h rfl rfl rfl (d_call [_, _] rfl Tryz.call35 (value_Made_ok (x0 := y21_14.1) (x1 := y21_14.2) hy24_15)) fun w X a h => ?_
   have H := H.ext X
   refine z_store h H 0 rfl rfl rfl Tryz.sizeOf25 [_, _, _] rfl rfl rfl (by simp) [_, _, _] rfl (hl' := [_, _]) rfl fun w H => ?_
   refine c_nil hK ?_
   have h := h.only [2] (l' := [_]) rfl
   obtain rfl := so hS
   refine c_ret (hret0 _ _ (out1 h rfl ⟨_, rfl, run_loadVar_agg (vs := [_, _, _]) Tryz.isAgg25 Tryz.sizeOf25 (H.hp.get 0 rfl) rfl rfl⟩ ?_))
   exact ⟨rfl, H.out⟩

theorem maths_One_ok {x0 : List UInt8} {x1 : Int} {res : V} {w0 : World} (hS : maths_One x0 x1 = some res) : Calls Tryz.prog 15 [S x0, .int .i64 x1].toArray w0 (Ret fun v w => v = .agg #[.int .i64 res.k, .int .i64 res.n, S res.s] ∧ Ext w0 w) := by
 refine enter Tryz.func15 rfl rfl rfl fun Q a h hret0 hnor => ?_
 obtain ⟨Zi, Z, H⟩ : ∃ Zi Z, HZ w0 Zi Z [] w0 := ⟨_, _, HZ.start w0⟩
 have h := h.only [0, 1] (l' := [_, _]) rfl
 unfold maths_One at hS
 refine c_region fun K hK => ?_
 refine z_alloc h H Tryz.zeroValue25 [_, _, _] rfl rfl fun a p4_1 w X H h => ?_
 have H : HZ w0 _ _ [_] _ := H
 refine c_nil hK ?_
 obtain ⟨J3, eJ3, hS⟩ := bv hS
 refine c_seq (fun a w => ∃ (Z : FZ) (s3 : Int × Int × (List UInt8)), J3 s3 = some res ∧ Fr 68 [(4, .pointer (some ⟨p4_1, 0, none⟩))] a ∧ HZ w0 Zi Z [.blk p4_1 (Cel [.int .i64 s3.1, .int .i64 s3.2.1, S s3.2.2] 25)] w) ?_ fun Q2 hN2 hO2 => ?_
 ·
  rintro a w ⟨Z, s3, hS, h, H⟩
  subst eJ3
  refine c_region fun K hK => ?_
  obtain ⟨y67_4, hy67_4, hS⟩ := bo hS
  refine st2v (T := Ext) (V := .agg #[.int .i64 y67_4.k, .int .i64 y67_4.n, S y67_4.s]) h rfl rfl rfl (d_call [_] rfl Tryz.call13 (value_Fail_ok (x0 := (2 : Int)) hy67_4)) fun w X a h => ?_
  have H := H.ext X
  refine z_store h H 0 rfl rfl rfl Tryz.sizeOf25 [_, _, _] rfl rfl rfl (by simp) [_, _, _] rfl (hl' := [_]) rfl fun w H => ?_
  refine c_nil hK ?_
  obtain rfl := so hS
  refine c_ret (hret0 _ _ (out1 h rfl ⟨_, rfl, run_loadVar_agg (vs := [_, _, _]) Tryz.isAgg25 Tryz.sizeOf25 (H.hp.get 0 rfl) rfl rfl⟩ ?_))
  exact ⟨rfl, H.out⟩
 ·
  have hret2 := hO2.ret hret0
  refine c_region fun K hK => ?_
  refine st1 h rfl rfl rfl (v_move rfl) fun a h => ?_
  refine c_nil hK ?_
  refine c_lblock fun Q5 hN5 hx0_5 hO5 => ?_
  have hret5 := hO5.ret hret2
  refine c_region fun K hK => ?_
  obtain ⟨z10_6, ez10_6, hS⟩ := bv hS
  refine st1 h rfl rfl rfl (vB ez10_6 (v_seq rfl rfl)) fun a h => ?_
  refine st1 h rfl rfl rfl (v_assign rfl) fun a h => ?_
  refine c_nil hK ?_
  refine c_cond h rfl (fun ec7 => ?_) (fun ec7 => ?_)
  ·
   have hS := ifT ec7 hS
   refine c_region fun K hK => ?_
   refine st1 h rfl rfl rfl (v_move rfl) fun a h => ?_
   refine st1 h rfl rfl rfl (v_move rfl) fun a h => ?_
   obtain ⟨z13_8, ez13_8, hS⟩ := bv hS
   refine st1 h rfl rfl rfl (vI ez13_8 (v_negw rfl)) fun a h => ?_
   obtain ⟨z14_9, ez14_9, hS⟩ := bv hS
   refine st1 h rfl rfl rfl (vI ez14_9 (v_max Tryz.underlying2 rfl rfl)) fun a h => ?_
   obtain ⟨y15_10, hy15_10, hS⟩ := bo hS
   refine st2v (T := Ext) (V := .agg #[.int .i64 y15_10.k, .int .i64 y15_10.n, S y15_10.s]) h rfl rfl rfl (d_call [_] rfl Tryz.call22 (value_Num_ok (x0 := z14_9) hy15_10)) fun w X a h => ?_
   have H := H.ext X
   refine z_store h H 0 rfl rfl rfl Tryz.sizeOf25 [_, _, _] rfl rfl rfl (by simp) [_, _, _] rfl (hl' := [_]) rfl fun w H => ?_
   refine c_nil hK ?_
   have h := h.only [4] (l' := [_]) rfl
   obtain rfl := so hS
   refine c_ret (hret5 _ _ (out1 h rfl ⟨_, rfl, run_loadVar_agg (vs := [_, _, _]) Tryz.isAgg25 Tryz.sizeOf25 (H.hp.get 0 rfl) rfl rfl⟩ ?_))
   exact ⟨rfl, H.out⟩
  ·
   have hS := ifF ec7 hS
   refine c_region fun K hK => ?_
   obtain ⟨z17_11, ez17_11, hS⟩ := bv hS
   refine st1 h rfl rfl rfl (vB ez17_11 (v_seq rfl rfl)) fun a h => ?_
   refine st1 h rfl rfl rfl (v_assign rfl) fun a h => ?_
   refine c_nil hK ?_
   refine c_cond h rfl (fun ec12 => ?_) (fun ec12 => ?_)
   ·
    have hS := ifT ec12 hS
    refine c_region fun K hK => ?_
    refine st1 h rfl rfl rfl (v_move rfl) fun a h => ?_
    obtain ⟨z19_13, ez19_13, hS⟩ := bv hS
    refine st1 h rfl rfl rfl (vI ez19_13 (v_max Tryz.underlying2 rfl rfl)) fun a h => ?_
    obtain ⟨z20_14, ez20_14, hS⟩ := bv hS
    refine st1 h rfl rfl rfl (vI ez20_14 (v_min Tryz.underlying2 rfl rfl)) fun a h => ?_
    obtain ⟨y21_15, hy21_15, hS⟩ := bo hS
    refine st2v (T := Ext) (V := .agg #[.int .i64 y21_15.k, .int .i64 y21_15.n, S y21_15.s]) h rfl rfl rfl (d_call [_] rfl Tryz.call34 (maths_back_ok (x0 := z20_14) hy21_15)) fun w X a h => ?_
    have H := H.ext X
    refine z_store h H 0 rfl rfl rfl Tryz.sizeOf25 [_, _, _] rfl rfl rfl (by simp) [_, _, _] rfl (hl' := [_]) rfl fun w H => ?_
    refine c_nil hK ?_
    have h := h.only [4] (l' := [_]) rfl
    obtain rfl := so hS
    refine c_ret (hret5 _ _ (out1 h rfl ⟨_, rfl, run_loadVar_agg (vs := [_, _, _]) Tryz.isAgg25 Tryz.sizeOf25 (H.hp.get 0 rfl) rfl rfl⟩ ?_))
    exact ⟨rfl, H.out⟩
   ·
    have hS := ifF ec12 hS
    refine c_region fun K hK => ?_
    obtain ⟨z23_16, ez23_16, hS⟩ := bv hS
    refine st1 h rfl rfl rfl (vB ez23_16 (v_seq rfl rfl)) fun a h => ?_
    refine st1 h rfl rfl rfl (v_assign rfl) fun a h => ?_
    refine c_nil hK ?_
    have h := h.only [0, 1, 4, 8, 22] (l' := [_, _, _, _, _]) rfl
    refine c_cond h rfl (fun ec17 => ?_) (fun ec17 => ?_)
    ·
     have hS := ifT ec17 hS
     refine c_region fun K hK => ?_
     refine st1 h rfl rfl rfl (v_move rfl) fun a h => ?_
     obtain ⟨y25_18, hy25_18, hS⟩ := bo hS
     refine st2v (T := Ext) (V := .tuple #[.int .i64 y25_18.1, .bool y25_18.2]) h rfl rfl rfl (d_call [_] rfl Tryz.call36 (num_Floor_ok (x0 := x1) hy25_18)) fun w X a h => ?_
     have H := H.ext X
     refine st1 h rfl rfl rfl (v_extract rfl rfl) fun a h => ?_
     refine st1 h rfl rfl rfl (v_extract rfl rfl) fun a h => ?_
     obtain ⟨y28_19, hy28_19, hS⟩ := bo hS
     refine st2v (T := Ext) (V := .agg #[.int .i64 y28_19.k, .int .i64 y28_19.n, S y28_19.s]) h rfl rfl rfl (d_call [_, _] rfl Tryz.call35 (value_Made_ok (x0 := y25_18.1) (x1 := y25_18.2) hy28_19)) fun w X a h => ?_
     have H := H.ext X
     refine z_store h H 0 rfl rfl rfl Tryz.sizeOf25 [_, _, _] rfl rfl rfl (by simp) [_, _, _] rfl (hl' := [_]) rfl fun w H => ?_
     refine c_nil hK ?_
     have h := h.only [4] (l' := [_]) rfl
     obtain rfl := so hS
     refine c_ret (hret5 _ _ (out1 h rfl ⟨_, rfl, run_loadVar_agg (vs := [_, _, _]) Tryz.isAgg25 Tryz.sizeOf25 (H.hp.get 0 rfl) rfl rfl⟩ ?_))
     exact ⟨rfl, H.out⟩
    ·
     have hS := ifF ec17 hS
     refine c_region fun K hK => ?_
     obtain ⟨z30_20, ez30_20, hS⟩ := bv hS
     refine st1 h rfl rfl rfl (vB ez30_20 (v_seq rfl rfl)) fun a h => ?_
     refine st1 h rfl rfl rfl (v_assign rfl) fun a h => ?_
     refine c_nil hK ?_
     refine c_cond h rfl (fun ec21 => ?_) (fun ec21 => ?_)
     ·
      have hS := ifT ec21 hS
      refine c_region fun K hK => ?_
      refine st1 h rfl rfl rfl (v_move rfl) fun a h => ?_
      refine st1 h rfl rfl rfl (v_move rfl) fun a h => ?_
      obtain ⟨z33_22, ez33_22, hS⟩ := bv hS
      refine st1 h rfl rfl rfl (vI ez33_22 (v_rem rfl rfl (by decide))) fun a h => ?_
      obtain ⟨z34_23, ez34_23, hS⟩ := bv hS
      refine st1 h rfl rfl rfl (vI ez34_23 (v_subw rfl rfl)) fun a h => ?_
      obtain ⟨y35_24, hy35_24, hS⟩ := bo hS
      refine st2v (T := Ext) (V := .agg #[.int .i64 y35_24.k, .int .i64 y35_24.n, S y35_24.s]) h rfl rfl rfl (d_call [_] rfl Tryz.call22 (value_Num_ok (x0 := z34_23) hy35_24)) fun w X a h => ?_
      have H := H.ext X
      refine z_store h H 0 rfl rfl rfl Tryz.sizeOf25 [_, _, _] rfl rfl rfl (by simp) [_, _, _] rfl (hl' := [_]) rfl fun w H => ?_
      refine c_nil hK ?_
      have h := h.only [4] (l' := [_]) rfl
      obtain rfl := so hS
      refine c_ret (hret5 _ _ (out1 h rfl ⟨_, rfl, run_loadVar_agg (vs := [_, _, _]) Tryz.isAgg25 Tryz.sizeOf25 (H.hp.get 0 rfl) rfl rfl⟩ ?_))
      exact ⟨rfl, H.out⟩
     ·
      have hS := ifF ec21 hS
      obtain ⟨J26, eJ26, hS⟩ := bv hS
      refine c_seq (fun a w => ∃ (Z : FZ) (s26 : Bool), J26 s26 = some res ∧ Fr 68 [(0, S x0), (1, .int .i64 x1), (4, .pointer (some ⟨p4_1, 0, none⟩)), (8, S x0), (36, .bool s26)] a ∧ HZ w0 Zi Z [.blk p4_1 (Cel [.int .i64 0, .int .i64 0, S []] 25)] w) ?_ fun Q25 hN25 hO25 => ?_
      ·
       rintro a w ⟨Z, s26, hS, h, H⟩
       subst eJ26
       refine c_cond h rfl (fun ec27 => ?_) (fun ec27 => ?_)
       ·
        have hS := ifT ec27 hS
        refine c_region fun K hK => ?_
        refine st1 h rfl rfl rfl (v_move rfl) fun a h => ?_
        refine st1 h rfl rfl rfl (v_move rfl) fun a h => ?_
        obtain ⟨z41_28, ez41_28, hS⟩ := bv hS
        refine st1 h rfl rfl rfl (vB ez41_28 (v_seq rfl rfl)) fun a h => ?_
        obtain ⟨y42_29, hy42_29, hS⟩ := bo hS
        refine st2v (T := Ext) (V := .agg #[.int .i64 y42_29.k, .int .i64 y42_29.n, S y42_29.s]) h rfl rfl rfl (d_call [_, _] rfl Tryz.call37 (maths_away_ok (x0 := x1) (x1 := z41_28) hy42_29)) fun w X a h => ?_
        have H := H.ext X
        refine z_store h H 0 rfl rfl rfl Tryz.sizeOf25 [_, _, _] rfl rfl rfl (by simp) [_, _, _] rfl (hl' := [_]) rfl fun w H => ?_
        refine c_nil hK ?_
        have h := h.only [4] (l' := [_]) rfl
        obtain rfl := so hS
        refine c_ret (hret5 _ _ (out1 h rfl ⟨_, rfl, run_loadVar_agg (vs := [_, _, _]) Tryz.isAgg25 Tryz.sizeOf25 (H.hp.get 0 rfl) rfl rfl⟩ ?_))
        exact ⟨rfl, H.out⟩
       ·
        have hS := ifF ec27 hS
        refine c_region fun K hK => ?_
        obtain ⟨z44_30, ez44_30, hS⟩ := bv hS
        refine st1 h rfl rfl rfl (vB ez44_30 (v_seq rfl rfl)) fun a h => ?_
        refine st1 h rfl rfl rfl (v_assign rfl) fun a h => ?_
        refine c_nil hK ?_
        have h := h.only [1, 4, 43] (l' := [_, _, _]) rfl
        refine c_cond h rfl (fun ec31 => ?_) (fun ec31 => ?_)
        ·
         have hS := ifT ec31 hS
         refine c_region fun K hK => ?_
         refine st1 h rfl rfl rfl (v_move rfl) fun a h => ?_
         refine z_slice (enc := (eI .i64)) ([x1] : List (Int)) h H Tryz.underlying52 Tryz.sizeOf2 Tryz.zeroValue2 rfl (zl := [.int .i64 0]) (by kernel_rfl) (plA_get 1 1) [_] [_] rfl rfl rfl rfl rfl fun a v46_32 Z w hsub X H r46_32 h => ?_
         obtain ⟨y47_33, hy47_33, hS⟩ := bo hS
         refine z_callR (data := y47_33) h H rfl rfl rfl (d_call [_] rfl Tryz.call38 (maths_whole_ok (x0 := [x1]) hy47_33 (r46_32.hz H.zin))) fun v47_34 Z w hsub X H r47_34 a h => ?_
         have r46_32 := r46_32.sub hsub
         obtain ⟨c35, hS⟩ := ck hS
         obtain ⟨z48_36, ez48_36, hS⟩ := bv hS
         refine st_idx h Tryz.underlying52 Tryz.sizeOf2 rfl rfl (r47_34.at H.zin) (fun _ => rfl) z48_36 c35.1 (by rw [ez48_36]; exact gel_some c35) rfl fun a v48 A48 h => ?_
         refine st1 h rfl rfl rfl (v_loadAt1 rfl A48 Tryz.isAgg2 rfl) fun a h => ?_
         refine st1 h rfl rfl rfl (v_assign rfl) fun a h => ?_
         refine c_nil hK ?_
         have h := h.only [4, 5] (l' := [_, _]) rfl
         refine c_seq _ (fun a w c => c) fun Q37 hN37 hO37 => ?_
         have hret37 := hO37.ret hret5
         have hx0_37 := hO37.exit (i := 0) rfl hx0_5
         refine c_region fun K hK => ?_
         refine st1 h rfl rfl rfl (v_move rfl) fun a h => ?_
         obtain ⟨z51_38, ez51_38, hS⟩ := bv hS
         refine st1 h rfl rfl rfl (vB ez51_38 (v_lt rfl rfl)) fun a h => ?_
         refine st1 h rfl rfl rfl (v_move rfl) fun a h => ?_
         refine st_g h rfl rfl (gF rfl) rfl rfl (fun e0 => v_move rfl) fun a h => ?_
         obtain ⟨z54_39, ez54_39, hS⟩ := bv hS
         refine st_g h rfl rfl (gF rfl) rfl rfl (fun e0 => vB ez54_39 (v_gt (eg e0 rfl) rfl)) fun a h => ?_
         obtain ⟨z55_40, ez55_40, hS⟩ := bv hS
         refine st1 h rfl rfl rfl (vB ez55_40 (v_or rfl rfl)) fun a h => ?_
         refine c_nil hK ?_
         have h := h.only [4, 5, 55] (l' := [_, _, _]) rfl
         refine c_cond h rfl (fun ec41 => ?_) (fun ec41 => ?_)
         ·
          have hS := ifT ec41 hS
          refine c_region fun K hK => ?_
          obtain ⟨y56_42, hy56_42, hS⟩ := bo hS
          refine st2v (T := Ext) (V := .agg #[.int .i64 y56_42.k, .int .i64 y56_42.n, S y56_42.s]) h rfl rfl rfl (d_call [_] rfl Tryz.call13 (value_Fail_ok (x0 := (5 : Int)) hy56_42)) fun w X a h => ?_
          have H := H.ext X
          refine z_store h H 0 rfl rfl rfl Tryz.sizeOf25 [_, _, _] rfl rfl rfl (by simp) [_, _, _] rfl (hl' := [_]) rfl fun w H => ?_
          refine c_nil hK ?_
          obtain rfl := so hS
          refine c_ret (hret37 _ _ (out1 h rfl ⟨_, rfl, run_loadVar_agg (vs := [_, _, _]) Tryz.isAgg25 Tryz.sizeOf25 (H.hp.get 0 rfl) rfl rfl⟩ ?_))
          exact ⟨rfl, H.out⟩
         ·
          have hS := ifF ec41 hS
          refine c_skip ?_
          refine hN37 _ _ ?_
          refine c_region fun K hK => ?_
          refine st1 h rfl rfl rfl (v_assign rfl) fun a h => ?_
          refine c_nil hK ?_
          obtain ⟨J44, eJ44, hS⟩ := bv hS
          refine c_seq (fun a w => ∃ (Z : FZ) (s44 : Int), J44 s44 = some res ∧ Fr 68 [(4, .pointer (some ⟨p4_1, 0, none⟩)), (6, .int .i64 s44)] a ∧ HZ w0 Zi Z [.blk p4_1 (Cel [.int .i64 0, .int .i64 0, S []] 25)] w) ?_ fun Q43 hN43 hO43 => ?_
          ·
           rintro a w ⟨Z, s44, hS, h, H⟩
           subst eJ44
           refine c_region fun K hK => ?_
           refine st1 h rfl rfl rfl (v_move rfl) fun a h => ?_
           obtain ⟨y66_45, hy66_45, hS⟩ := bo hS
           refine st2v (T := Ext) (V := .agg #[.int .i64 y66_45.k, .int .i64 y66_45.n, S y66_45.s]) h rfl rfl rfl (d_call [_] rfl Tryz.call34 (maths_back_ok (x0 := s44) hy66_45)) fun w X a h => ?_
           have H := H.ext X
           refine z_store h H 0 rfl rfl rfl Tryz.sizeOf25 [_, _, _] rfl rfl rfl (by simp) [_, _, _] rfl (hl' := [_]) rfl fun w H => ?_
           refine c_nil hK ?_
           obtain rfl := so hS
           refine c_ret (hret5 _ _ (out1 h rfl ⟨_, rfl, run_loadVar_agg (vs := [_, _, _]) Tryz.isAgg25 Tryz.sizeOf25 (H.hp.get 0 rfl) rfl rfl⟩ ?_))
           exact ⟨rfl, H.out⟩
          ·
           have hret43 := hO43.ret hret5
           have hx0_43 := hO43.exit (i := 0) rfl hx0_5
           refine c_region fun K hK => ?_
           refine st1 h rfl rfl rfl (v_assign rfl) fun a h => ?_
           refine c_nil hK ?_
           refine c_lblock fun Q46 hN46 hx1_46 hO46 => ?_
           have hret46 := hO46.ret hret43
           have hx0_46 := hO46.exit (i := 0) rfl hx0_43
           obtain ⟨B47, eB47, hS⟩ := bv hS
           refine c_loopN (fun mu_ a w => ∃ (Z : FZ) (s47 : Int × Int), loopF B47 mu_ s47 = some res ∧ Fr 68 [(4, .pointer (some ⟨p4_1, 0, none⟩)), (5, .int .i64 z48_36), (6, .int .i64 s47.1), (7, .int .i64 s47.2)] a ∧ HZ w0 Zi Z [.blk p4_1 (Cel [.int .i64 0, .int .i64 0, S []] 25)] w) KK ⟨_, (1, 2), hS, (h.only [4, 5, 6, 7] (l' := [_, _, _, _]) rfl), H⟩ ?_
           rintro mu_ a w ⟨Z, s47, hS, h, H⟩ Q48 hN48 hO48
           obtain ⟨mu_, rfl, n47, en47, hS⟩ := lpX eB47 hS
           have hret48 := hO48.ret hret46
           have hx0_48 := hO48.exit (i := 0) rfl hx0_46
           have hx1_48 := hO48.exit (i := 1) rfl hx1_46
           refine c_seq _ (fun a w c => c) fun Q49 hN49 hO49 => ?_
           have hret49 := hO49.ret hret48
           have hx0_49 := hO49.exit (i := 0) rfl hx0_48
           have hx1_49 := hO49.exit (i := 1) rfl hx1_48
           refine c_region fun K hK => ?_
           refine st1 h rfl rfl rfl (v_move rfl) fun a h => ?_
           refine st1 h rfl rfl rfl (v_move rfl) fun a h => ?_
           obtain ⟨z59_50, ez59_50, hS⟩ := bv hS
           refine st1 h rfl rfl rfl (vB ez59_50 (v_le rfl rfl)) fun a h => ?_
           refine c_nil hK ?_
           refine c_cond h rfl (fun ec51 => ?_) (fun ec51 => ?_)
           ·
            have hS := ifT ec51 hS
            refine c_skip ?_
            refine hN49 _ _ ?_
            refine c_block _ (fun a w c => c) fun Q52 hN52 hx2_52 hO52 => ?_
            have hret52 := hO52.ret hret48
            have hx0_52 := hO52.exit (i := 0) rfl hx0_48
            have hx1_52 := hO52.exit (i := 1) rfl hx1_48
            refine c_lregion ?_
            refine st1 h rfl rfl rfl (v_move rfl) fun a h => ?_
            refine st1 h rfl rfl rfl (v_move rfl) fun a h => ?_
            obtain ⟨z64_53, ez64_53, hS⟩ := bv hS
            refine st1 h rfl rfl rfl (vI ez64_53 (v_mulw rfl rfl)) fun a h => ?_
            refine st1 h rfl rfl rfl (v_assign rfl) fun a h => ?_
            refine c_lnil ?_
            refine hN52 _ _ ?_
            have h := h.only [4, 5, 6, 7] (l' := [_, _, _, _]) rfl
            refine c_lregion ?_
            refine st1 h rfl rfl rfl (v_move rfl) fun a h => ?_
            obtain ⟨z61_54, ez61_54, hS⟩ := bv hS
            refine st1 h rfl rfl rfl (vI ez61_54 (v_addw rfl rfl)) fun a h => ?_
            refine st1 h rfl rfl rfl (v_assign rfl) fun a h => ?_
            refine c_lnil ?_
            exact hN48 _ _ _ (Nat.lt_succ_self _) ⟨_, (z64_53, z61_54), lpN en47 hS, (h.only [4, 5, 6, 7] (l' := [_, _, _, _]) rfl), H⟩
           ·
            have hS := ifF ec51 hS
            refine c_exit ?_
            refine hx1_49 _ _ ?_
            exact hN43 _ _ ⟨_, s47.1, hS, (h.only [4, 6] (l' := [_, _]) rfl), H⟩
        ·
         have hS := ifF ec31 hS
         refine c_skip ?_
         refine hN5 _ _ ?_
         exact hN2 _ _ ⟨_, (0, 0, []), hS, (h.only [4] (l' := [_]) rfl), H⟩
      ·
       have hret25 := hO25.ret hret5
       have hx0_25 := hO25.exit (i := 0) rfl hx0_5
       refine c_region fun K hK => ?_
       obtain ⟨z37_55, ez37_55, hS⟩ := bv hS
       refine st1 h rfl rfl rfl (vB ez37_55 (v_seq rfl rfl)) fun a h => ?_
       refine st1 h rfl rfl rfl (v_assign rfl) fun a h => ?_
       refine c_nil hK ?_
       have h := h.only [0, 1, 4, 8, 36] (l' := [_, _, _, _, _]) rfl
       refine c_cond h rfl (fun ec56 => ?_) (fun ec56 => ?_)
       ·
        have hS := ifT ec56 hS
        refine c_skip ?_
        exact hN25 _ _ ⟨_, z37_55, hS, (h.only [0, 1, 4, 8, 36] (l' := [_, _, _, _, _]) rfl), H⟩
       ·
        have hS := ifF ec56 hS
        refine c_lregion ?_
        obtain ⟨z38_57, ez38_57, hS⟩ := bv hS
        refine st1 h rfl rfl rfl (vB ez38_57 (v_seq rfl rfl)) fun a h => ?_
        refine st1 h rfl rfl rfl (v_assign rfl) fun a h => ?_
        refine c_lnil ?_
        exact hN25 _ _ ⟨_, z38_57, hS, (h.only [0, 1, 4, 8, 36] (l' := [_, _, _, _, _]) rfl), H⟩

theorem maths_Two_ok {x0 : List UInt8} {x1 : Int} {x2 : Int} {res : V} {w0 : World} (hS : maths_Two x0 x1 x2 = some res) : Calls Tryz.prog 17 [S x0, .int .i64 x1, .int .i64 x2].toArray w0 (Ret fun v w => v = .agg #[.int .i64 res.k, .int .i64 res.n, S res.s] ∧ Ext w0 w) := by
 refine enter Tryz.func17 rfl rfl rfl fun Q a h hret0 hnor => ?_
 obtain ⟨Zi, Z, H⟩ : ∃ Zi Z, HZ w0 Zi Z [] w0 := ⟨_, _, HZ.start w0⟩
 have h := h.only [0, 1, 2] (l' := [_, _, _]) rfl
 unfold maths_Two at hS
 refine c_region fun K hK => ?_
 refine z_alloc h H Tryz.zeroValue25 [_, _, _] rfl rfl fun a p6_1 w X H h => ?_
 have H : HZ w0 _ _ [_] _ := H
 refine c_nil hK ?_
 refine c_region fun K hK => ?_
 refine st1 h rfl rfl rfl (v_move rfl) fun a h => ?_
 refine st1 h rfl rfl rfl (v_move rfl) fun a h => ?_
 refine z_slice (enc := (eI .i64)) ([x1, x2] : List (Int)) h H Tryz.underlying52 Tryz.sizeOf2 Tryz.zeroValue2 rfl (zl := [.int .i64 0, .int .i64 0]) (by kernel_rfl) (plA_get 2 1) [_, _] [_, _] rfl rfl rfl rfl rfl fun a v13_2 Z w hsub X H r13_2 h => ?_
 obtain ⟨y14_3, hy14_3, hS⟩ := bo hS
 refine z_callR (data := y14_3) h H rfl rfl rfl (d_call [_] rfl Tryz.call38 (maths_whole_ok (x0 := [x1, x2]) hy14_3 (r13_2.hz H.zin))) fun v14_4 Z w hsub X H r14_4 a h => ?_
 have r13_2 := r13_2.sub hsub
 refine st1 h rfl rfl rfl (v_assign rfl) fun a h => ?_
 refine c_nil hK ?_
 have h := h.only [0, 1, 2, 6, 7] (l' := [_, _, _, _, _]) rfl
 refine c_seq _ (fun a w c => c) fun Q5 hN5 hO5 => ?_
 have hret5 := hO5.ret hret0
 refine c_region fun K hK => ?_
 refine st1 h rfl rfl rfl (v_move rfl) fun a h => ?_
 refine c_nil hK ?_
 refine c_lblock fun Q6 hN6 hx0_6 hO6 => ?_
 have hret6 := hO6.ret hret5
 refine c_region fun K hK => ?_
 obtain ⟨z17_7, ez17_7, hS⟩ := bv hS
 refine st1 h rfl rfl rfl (vB ez17_7 (v_seq rfl rfl)) fun a h => ?_
 refine st1 h rfl rfl rfl (v_assign rfl) fun a h => ?_
 refine c_nil hK ?_
 refine c_cond h rfl (fun ec8 => ?_) (fun ec8 => ?_)
 ·
  have hS := ifT ec8 hS
  refine c_seq _ (fun a w c => c) fun Q9 hN9 hO9 => ?_
  have hret9 := hO9.ret hret6
  have hx0_9 := hO9.exit (i := 0) rfl hx0_6
  refine c_region fun K hK => ?_
  refine st1 h rfl rfl rfl (v_move rfl) fun a h => ?_
  obtain ⟨c10, hS⟩ := ck hS
  obtain ⟨z19_11, ez19_11, hS⟩ := bv hS
  refine st_idx h Tryz.underlying52 Tryz.sizeOf2 rfl rfl (r14_4.at H.zin) (fun _ => rfl) z19_11 c10.1 (by rw [ez19_11]; exact gel_some c10) rfl fun a v19 A19 h => ?_
  refine st1 h rfl rfl rfl (v_loadAt1 rfl A19 Tryz.isAgg2 rfl) fun a h => ?_
  obtain ⟨z21_12, ez21_12, hS⟩ := bv hS
  refine st1 h rfl rfl rfl (vB ez21_12 (v_lt rfl rfl)) fun a h => ?_
  refine st1 h rfl rfl rfl (v_move rfl) fun a h => ?_
  refine st_g h rfl rfl (gF rfl) rfl rfl (fun e0 => v_move rfl) fun a h => ?_
  obtain ⟨c13, hS⟩ := ck hS
  obtain ⟨z24_14, ez24_14, hS⟩ := bv hS
  refine st_idxG h rfl (gF rfl) Tryz.underlying52 Tryz.sizeOf2 (fun e0 => (eg e0 rfl)) (fun e0 => rfl) (r14_4.at H.zin) (fun _ => rfl) z24_14 (fun e0 => (c13 e0).1) (fun e0 => (by rw [ez24_14]; exact gel_some (c13 e0))) rfl fun a v24 A24 h => ?_
  refine st_g h rfl rfl (gF rfl) rfl rfl (fun e0 => v_loadAt1 (eg e0 rfl) (A24 e0) Tryz.isAgg2 rfl) fun a h => ?_
  obtain ⟨z26_15, ez26_15, hS⟩ := bv hS
  refine st_g h rfl rfl (gF rfl) rfl rfl (fun e0 => vB ez26_15 (v_gt (eg e0 rfl) rfl)) fun a h => ?_
  obtain ⟨z27_16, ez27_16, hS⟩ := bv hS
  refine st1 h rfl rfl rfl (vB ez27_16 (v_or rfl rfl)) fun a h => ?_
  refine c_nil hK ?_
  have h := h.only [1, 6, 7, 27] (l' := [_, _, _, _]) rfl
  refine c_cond h rfl (fun ec17 => ?_) (fun ec17 => ?_)
  ·
   have hS := ifT ec17 hS
   refine c_region fun K hK => ?_
   obtain ⟨y28_18, hy28_18, hS⟩ := bo hS
   refine st2v (T := Ext) (V := .agg #[.int .i64 y28_18.k, .int .i64 y28_18.n, S y28_18.s]) h rfl rfl rfl (d_call [_] rfl Tryz.call13 (value_Fail_ok (x0 := (5 : Int)) hy28_18)) fun w X a h => ?_
   have H := H.ext X
   refine z_store h H 0 rfl rfl rfl Tryz.sizeOf25 [_, _, _] rfl rfl rfl (by simp) [_, _, _] rfl (hl' := [_]) rfl fun w H => ?_
   refine c_nil hK ?_
   have h := h.only [6] (l' := [_]) rfl
   obtain rfl := so hS
   refine c_ret (hret9 _ _ (out1 h rfl ⟨_, rfl, run_loadVar_agg (vs := [_, _, _]) Tryz.isAgg25 Tryz.sizeOf25 (H.hp.get 0 rfl) rfl rfl⟩ ?_))
   exact ⟨rfl, H.out⟩
  ·
   have hS := ifF ec17 hS
   refine c_skip ?_
   refine hN9 _ _ ?_
   refine c_region fun K hK => ?_
   refine st1 h rfl rfl rfl (v_move rfl) fun a h => ?_
   refine st1 h rfl rfl rfl (v_move rfl) fun a h => ?_
   obtain ⟨c19, hS⟩ := ck hS
   obtain ⟨z31_20, ez31_20, hS⟩ := bv hS
   refine st_idx h Tryz.underlying52 Tryz.sizeOf2 rfl rfl (r14_4.at H.zin) (fun _ => rfl) z31_20 c19.1 (by rw [ez31_20]; exact gel_some c19) rfl fun a v31 A31 h => ?_
   refine st1 h rfl rfl rfl (v_loadAt1 rfl A31 Tryz.isAgg2 rfl) fun a h => ?_
   obtain ⟨y33_21, hy33_21, hS⟩ := bo hS
   refine st2v (T := Ext) (V := .agg #[.int .i64 y33_21.k, .int .i64 y33_21.n, S y33_21.s]) h rfl rfl rfl (d_call [_, _] rfl Tryz.call39 (maths_round_ok (x0 := x1) (x1 := z31_20) hy33_21)) fun w X a h => ?_
   have H := H.ext X
   have A31 := At.ext A31 X
   refine z_store h H 0 rfl rfl rfl Tryz.sizeOf25 [_, _, _] rfl rfl rfl (by simp) [_, _, _] rfl (hl' := [_]) rfl fun w H => ?_
   refine c_nil hK ?_
   have h := h.only [6] (l' := [_]) rfl
   obtain rfl := so hS
   refine c_ret (hret6 _ _ (out1 h rfl ⟨_, rfl, run_loadVar_agg (vs := [_, _, _]) Tryz.isAgg25 Tryz.sizeOf25 (H.hp.get 0 rfl) rfl rfl⟩ ?_))
   exact ⟨rfl, H.out⟩
 ·
  have hS := ifF ec8 hS
  refine c_region fun K hK => ?_
  obtain ⟨z35_22, ez35_22, hS⟩ := bv hS
  refine st1 h rfl rfl rfl (vB ez35_22 (v_seq rfl rfl)) fun a h => ?_
  refine st1 h rfl rfl rfl (v_assign rfl) fun a h => ?_
  refine c_nil hK ?_
  refine c_cond h rfl (fun ec23 => ?_) (fun ec23 => ?_)
  ·
   have hS := ifT ec23 hS
   refine c_seq _ (fun a w c => c) fun Q24 hN24 hO24 => ?_
   have hret24 := hO24.ret hret6
   have hx0_24 := hO24.exit (i := 0) rfl hx0_6
   refine c_region fun K hK => ?_
   refine st1 h rfl rfl rfl (v_move rfl) fun a h => ?_
   obtain ⟨z37_25, ez37_25, hS⟩ := bv hS
   refine st1 h rfl rfl rfl (vB ez37_25 (v_eq rfl rfl)) fun a h => ?_
   refine c_nil hK ?_
   have h := h.only [1, 2, 6, 37] (l' := [_, _, _, _]) rfl
   refine c_cond h rfl (fun ec26 => ?_) (fun ec26 => ?_)
   ·
    have hS := ifT ec26 hS
    refine c_region fun K hK => ?_
    obtain ⟨y38_27, hy38_27, hS⟩ := bo hS
    refine st2v (T := Ext) (V := .agg #[.int .i64 y38_27.k, .int .i64 y38_27.n, S y38_27.s]) h rfl rfl rfl (d_call [_] rfl Tryz.call13 (value_Fail_ok (x0 := (1 : Int)) hy38_27)) fun w X a h => ?_
    have H := H.ext X
    refine z_store h H 0 rfl rfl rfl Tryz.sizeOf25 [_, _, _] rfl rfl rfl (by simp) [_, _, _] rfl (hl' := [_]) rfl fun w H => ?_
    refine c_nil hK ?_
    have h := h.only [6] (l' := [_]) rfl
    obtain rfl := so hS
    refine c_ret (hret24 _ _ (out1 h rfl ⟨_, rfl, run_loadVar_agg (vs := [_, _, _]) Tryz.isAgg25 Tryz.sizeOf25 (H.hp.get 0 rfl) rfl rfl⟩ ?_))
    exact ⟨rfl, H.out⟩
   ·
    have hS := ifF ec26 hS
    refine c_skip ?_
    refine hN24 _ _ ?_
    refine c_region fun K hK => ?_
    refine st1 h rfl rfl rfl (v_move rfl) fun a h => ?_
    refine st1 h rfl rfl rfl (v_move rfl) fun a h => ?_
    obtain ⟨c28, hS⟩ := ck hS
    obtain ⟨z41_29, ez41_29, hS⟩ := bv hS
    refine st1 h rfl rfl rfl (vI ez41_29 (v_rem rfl rfl c28)) fun a h => ?_
    refine st1 h rfl rfl rfl (v_assign rfl) fun a h => ?_
    refine c_nil hK ?_
    have h := h.only [2, 6, 8] (l' := [_, _, _]) rfl
    obtain ⟨J31, eJ31, hS⟩ := bv hS
    refine c_seq (fun a w => ∃ (Z : FZ) (s31 : Int), J31 s31 = some res ∧ Fr 142 [(6, .pointer (some ⟨p6_1, 0, none⟩)), (8, .int .i64 s31)] a ∧ HZ w0 Zi Z [.blk p6_1 (Cel [.int .i64 0, .int .i64 0, S []] 25)] w) ?_ fun Q30 hN30 hO30 => ?_
    ·
     rintro a w ⟨Z, s31, hS, h, H⟩
     subst eJ31
     refine c_region fun K hK => ?_
     refine st1 h rfl rfl rfl (v_move rfl) fun a h => ?_
     obtain ⟨y55_32, hy55_32, hS⟩ := bo hS
     refine st2v (T := Ext) (V := .agg #[.int .i64 y55_32.k, .int .i64 y55_32.n, S y55_32.s]) h rfl rfl rfl (d_call [_] rfl Tryz.call22 (value_Num_ok (x0 := s31) hy55_32)) fun w X a h => ?_
     have H := H.ext X
     refine z_store h H 0 rfl rfl rfl Tryz.sizeOf25 [_, _, _] rfl rfl rfl (by simp) [_, _, _] rfl (hl' := [_]) rfl fun w H => ?_
     refine c_nil hK ?_
     obtain rfl := so hS
     refine c_ret (hret6 _ _ (out1 h rfl ⟨_, rfl, run_loadVar_agg (vs := [_, _, _]) Tryz.isAgg25 Tryz.sizeOf25 (H.hp.get 0 rfl) rfl rfl⟩ ?_))
     exact ⟨rfl, H.out⟩
    ·
     have hret30 := hO30.ret hret6
     have hx0_30 := hO30.exit (i := 0) rfl hx0_6
     refine c_region fun K hK => ?_
     refine st1 h rfl rfl rfl (v_move rfl) fun a h => ?_
     obtain ⟨z43_33, ez43_33, hS⟩ := bv hS
     refine st1 h rfl rfl rfl (vB ez43_33 (v_ne rfl rfl)) fun a h => ?_
     refine st1 h rfl rfl rfl (v_move rfl) fun a h => ?_
     refine st_g h rfl rfl (gT rfl) rfl rfl (fun e0 => v_move rfl) fun a h => ?_
     obtain ⟨z46_34, ez46_34, hS⟩ := bv hS
     refine st_g h rfl rfl (gT rfl) rfl rfl (fun e0 => vB ez46_34 (v_lt (eg e0 rfl) rfl)) fun a h => ?_
     refine st_g h rfl rfl (gT rfl) rfl rfl (fun e0 => v_move rfl) fun a h => ?_
     obtain ⟨z48_35, ez48_35, hS⟩ := bv hS
     refine st_g h rfl rfl (gT rfl) rfl rfl (fun e0 => vB ez48_35 (v_lt (eg e0 rfl) rfl)) fun a h => ?_
     obtain ⟨z49_36, ez49_36, hS⟩ := bv hS
     refine st_g h rfl rfl (gT rfl) rfl rfl (fun e0 => vB ez49_36 (v_bne Tryz.underlying4 (eg e0 rfl) (eg e0 rfl))) fun a h => ?_
     obtain ⟨z50_37, ez50_37, hS⟩ := bv hS
     refine st1 h rfl rfl rfl (vB ez50_37 (v_and rfl rfl)) fun a h => ?_
     refine c_nil hK ?_
     have h := h.only [2, 6, 8, 50] (l' := [_, _, _, _]) rfl
     refine c_cond h rfl (fun ec38 => ?_) (fun ec38 => ?_)
     ·
      have hS := ifT ec38 hS
      refine c_lregion ?_
      refine st1 h rfl rfl rfl (v_move rfl) fun a h => ?_
      refine st1 h rfl rfl rfl (v_move rfl) fun a h => ?_
      obtain ⟨z53_39, ez53_39, hS⟩ := bv hS
      refine st1 h rfl rfl rfl (vI ez53_39 (v_addw rfl rfl)) fun a h => ?_
      refine st1 h rfl rfl rfl (v_assign rfl) fun a h => ?_
      refine c_lnil ?_
      exact hN30 _ _ ⟨_, z53_39, hS, (h.only [6, 8] (l' := [_, _]) rfl), H⟩
     ·
      have hS := ifF ec38 hS
      refine c_skip ?_
      exact hN30 _ _ ⟨_, z41_29, hS, (h.only [6, 8] (l' := [_, _]) rfl), H⟩
  ·
   have hS := ifF ec23 hS
   refine c_region fun K hK => ?_
   obtain ⟨z57_40, ez57_40, hS⟩ := bv hS
   refine st1 h rfl rfl rfl (vB ez57_40 (v_seq rfl rfl)) fun a h => ?_
   refine st1 h rfl rfl rfl (v_assign rfl) fun a h => ?_
   refine c_nil hK ?_
   have h := h.only [0, 1, 2, 6, 7, 15, 56] (l' := [_, _, _, _, _, _, _]) rfl
   refine c_cond h rfl (fun ec41 => ?_) (fun ec41 => ?_)
   ·
    have hS := ifT ec41 hS
    refine c_seq _ (fun a w c => c) fun Q42 hN42 hO42 => ?_
    have hret42 := hO42.ret hret6
    have hx0_42 := hO42.exit (i := 0) rfl hx0_6
    refine c_region fun K hK => ?_
    refine st1 h rfl rfl rfl (v_move rfl) fun a h => ?_
    obtain ⟨z59_43, ez59_43, hS⟩ := bv hS
    refine st1 h rfl rfl rfl (vI ez59_43 (v_rem rfl rfl (by decide))) fun a h => ?_
    obtain ⟨z60_44, ez60_44, hS⟩ := bv hS
    refine st1 h rfl rfl rfl (vB ez60_44 (v_ne rfl rfl)) fun a h => ?_
    refine st1 h rfl rfl rfl (v_move rfl) fun a h => ?_
    refine st_g h rfl rfl (gF rfl) rfl rfl (fun e0 => v_move rfl) fun a h => ?_
    obtain ⟨c45, hS⟩ := ck hS
    obtain ⟨z63_46, ez63_46, hS⟩ := bv hS
    refine st_idxG h rfl (gF rfl) Tryz.underlying52 Tryz.sizeOf2 (fun e0 => (eg e0 rfl)) (fun e0 => rfl) (r14_4.at H.zin) (fun _ => rfl) z63_46 (fun e0 => (c45 e0).1) (fun e0 => (by rw [ez63_46]; exact gel_some (c45 e0))) rfl fun a v63 A63 h => ?_
    refine st_g h rfl rfl (gF rfl) rfl rfl (fun e0 => v_loadAt1 (eg e0 rfl) (A63 e0) Tryz.isAgg2 rfl) fun a h => ?_
    obtain ⟨z65_47, ez65_47, hS⟩ := bv hS
    refine st_g h rfl rfl (gF rfl) rfl rfl (fun e0 => vB ez65_47 (v_lt (eg e0 rfl) rfl)) fun a h => ?_
    obtain ⟨z66_48, ez66_48, hS⟩ := bv hS
    refine st1 h rfl rfl rfl (vB ez66_48 (v_or rfl rfl)) fun a h => ?_
    refine st1 h rfl rfl rfl (v_move rfl) fun a h => ?_
    refine st_g h rfl rfl (gF rfl) rfl rfl (fun e0 => v_move rfl) fun a h => ?_
    obtain ⟨c49, hS⟩ := ck hS
    obtain ⟨z69_50, ez69_50, hS⟩ := bv hS
    refine st_idxG h rfl (gF rfl) Tryz.underlying52 Tryz.sizeOf2 (fun e0 => (eg e0 rfl)) (fun e0 => rfl) (r14_4.at H.zin) (fun _ => rfl) z69_50 (fun e0 => (c49 e0).1) (fun e0 => (by rw [ez69_50]; exact gel_some (c49 e0))) rfl fun a v69 A69 h => ?_
    refine st_g h rfl rfl (gF rfl) rfl rfl (fun e0 => v_loadAt1 (eg e0 rfl) (A69 e0) Tryz.isAgg2 rfl) fun a h => ?_
    obtain ⟨z71_51, ez71_51, hS⟩ := bv hS
    refine st_g h rfl rfl (gF rfl) rfl rfl (fun e0 => vB ez71_51 (v_gt (eg e0 rfl) rfl)) fun a h => ?_
    obtain ⟨z72_52, ez72_52, hS⟩ := bv hS
    refine st1 h rfl rfl rfl (vB ez72_52 (v_or rfl rfl)) fun a h => ?_
    refine c_nil hK ?_
    have h := h.only [1, 6, 7, 72] (l' := [_, _, _, _]) rfl
    refine c_cond h rfl (fun ec53 => ?_) (fun ec53 => ?_)
    ·
     have hS := ifT ec53 hS
     refine c_region fun K hK => ?_
     obtain ⟨y73_54, hy73_54, hS⟩ := bo hS
     refine st2v (T := Ext) (V := .agg #[.int .i64 y73_54.k, .int .i64 y73_54.n, S y73_54.s]) h rfl rfl rfl (d_call [_] rfl Tryz.call13 (value_Fail_ok (x0 := (5 : Int)) hy73_54)) fun w X a h => ?_
     have H := H.ext X
     refine z_store h H 0 rfl rfl rfl Tryz.sizeOf25 [_, _, _] rfl rfl rfl (by simp) [_, _, _] rfl (hl' := [_]) rfl fun w H => ?_
     refine c_nil hK ?_
     have h := h.only [6] (l' := [_]) rfl
     obtain rfl := so hS
     refine c_ret (hret42 _ _ (out1 h rfl ⟨_, rfl, run_loadVar_agg (vs := [_, _, _]) Tryz.isAgg25 Tryz.sizeOf25 (H.hp.get 0 rfl) rfl rfl⟩ ?_))
     exact ⟨rfl, H.out⟩
    ·
     have hS := ifF ec53 hS
     refine c_skip ?_
     refine hN42 _ _ ?_
     refine c_region fun K hK => ?_
     refine st1 h rfl rfl rfl (v_move rfl) fun a h => ?_
     refine st1 h rfl rfl rfl (v_move rfl) fun a h => ?_
     obtain ⟨c55, hS⟩ := ck hS
     obtain ⟨z76_56, ez76_56, hS⟩ := bv hS
     refine st_idx h Tryz.underlying52 Tryz.sizeOf2 rfl rfl (r14_4.at H.zin) (fun _ => rfl) z76_56 c55.1 (by rw [ez76_56]; exact gel_some c55) rfl fun a v76 A76 h => ?_
     refine st1 h rfl rfl rfl (v_loadAt1 rfl A76 Tryz.isAgg2 rfl) fun a h => ?_
     obtain ⟨y78_57, hy78_57, hS⟩ := bo hS
     refine st2v (T := Ext) (V := .agg #[.int .i64 y78_57.k, .int .i64 y78_57.n, S y78_57.s]) h rfl rfl rfl (d_call [_, _] rfl Tryz.call40 (maths_power_ok (x0 := x1) (x1 := z76_56) hy78_57)) fun w X a h => ?_
     have H := H.ext X
     have A76 := At.ext A76 X
     refine z_store h H 0 rfl rfl rfl Tryz.sizeOf25 [_, _, _] rfl rfl rfl (by simp) [_, _, _] rfl (hl' := [_]) rfl fun w H => ?_
     refine c_nil hK ?_
     have h := h.only [6] (l' := [_]) rfl
     obtain rfl := so hS
     refine c_ret (hret6 _ _ (out1 h rfl ⟨_, rfl, run_loadVar_agg (vs := [_, _, _]) Tryz.isAgg25 Tryz.sizeOf25 (H.hp.get 0 rfl) rfl rfl⟩ ?_))
     exact ⟨rfl, H.out⟩
   ·
    have hS := ifF ec41 hS
    refine c_region fun K hK => ?_
    obtain ⟨z80_58, ez80_58, hS⟩ := bv hS
    refine st1 h rfl rfl rfl (vB ez80_58 (v_seq rfl rfl)) fun a h => ?_
    refine st1 h rfl rfl rfl (v_assign rfl) fun a h => ?_
    refine c_nil hK ?_
    refine c_cond h rfl (fun ec59 => ?_) (fun ec59 => ?_)
    ·
     have hS := ifT ec59 hS
     refine c_seq _ (fun a w c => c) fun Q60 hN60 hO60 => ?_
     have hret60 := hO60.ret hret6
     have hx0_60 := hO60.exit (i := 0) rfl hx0_6
     refine c_region fun K hK => ?_
     refine st1 h rfl rfl rfl (v_move rfl) fun a h => ?_
     obtain ⟨z82_61, ez82_61, hS⟩ := bv hS
     refine st1 h rfl rfl rfl (vB ez82_61 (v_eq rfl rfl)) fun a h => ?_
     refine c_nil hK ?_
     have h := h.only [1, 2, 6, 82] (l' := [_, _, _, _]) rfl
     refine c_cond h rfl (fun ec62 => ?_) (fun ec62 => ?_)
     ·
      have hS := ifT ec62 hS
      refine c_region fun K hK => ?_
      obtain ⟨y83_63, hy83_63, hS⟩ := bo hS
      refine st2v (T := Ext) (V := .agg #[.int .i64 y83_63.k, .int .i64 y83_63.n, S y83_63.s]) h rfl rfl rfl (d_call [_] rfl Tryz.call13 (value_Fail_ok (x0 := (1 : Int)) hy83_63)) fun w X a h => ?_
      have H := H.ext X
      refine z_store h H 0 rfl rfl rfl Tryz.sizeOf25 [_, _, _] rfl rfl rfl (by simp) [_, _, _] rfl (hl' := [_]) rfl fun w H => ?_
      refine c_nil hK ?_
      have h := h.only [6] (l' := [_]) rfl
      obtain rfl := so hS
      refine c_ret (hret60 _ _ (out1 h rfl ⟨_, rfl, run_loadVar_agg (vs := [_, _, _]) Tryz.isAgg25 Tryz.sizeOf25 (H.hp.get 0 rfl) rfl rfl⟩ ?_))
      exact ⟨rfl, H.out⟩
     ·
      have hS := ifF ec62 hS
      refine c_skip ?_
      refine hN60 _ _ ?_
      refine c_region fun K hK => ?_
      refine st1 h rfl rfl rfl (v_move rfl) fun a h => ?_
      refine st1 h rfl rfl rfl (v_move rfl) fun a h => ?_
      obtain ⟨c64, hS⟩ := ck hS
      obtain ⟨z86_65, ez86_65, hS⟩ := bv hS
      refine st1 h rfl rfl rfl (vI ez86_65 (v_quow rfl rfl c64)) fun a h => ?_
      obtain ⟨y87_66, hy87_66, hS⟩ := bo hS
      refine st2v (T := Ext) (V := .agg #[.int .i64 y87_66.k, .int .i64 y87_66.n, S y87_66.s]) h rfl rfl rfl (d_call [_] rfl Tryz.call34 (maths_back_ok (x0 := z86_65) hy87_66)) fun w X a h => ?_
      have H := H.ext X
      refine z_store h H 0 rfl rfl rfl Tryz.sizeOf25 [_, _, _] rfl rfl rfl (by simp) [_, _, _] rfl (hl' := [_]) rfl fun w H => ?_
      refine c_nil hK ?_
      have h := h.only [6] (l' := [_]) rfl
      obtain rfl := so hS
      refine c_ret (hret6 _ _ (out1 h rfl ⟨_, rfl, run_loadVar_agg (vs := [_, _, _]) Tryz.isAgg25 Tryz.sizeOf25 (H.hp.get 0 rfl) rfl rfl⟩ ?_))
      exact ⟨rfl, H.out⟩
    ·
     have hS := ifF ec59 hS
     obtain ⟨J68, eJ68, hS⟩ := bv hS
     refine c_seq (fun a w => ∃ (Z : FZ) (s68 : Bool), J68 s68 = some res ∧ Fr 142 [(0, S x0), (6, .pointer (some ⟨p6_1, 0, none⟩)), (7, v14_4), (88, .bool s68)] a ∧ HZ w0 Zi Z [.blk p6_1 (Cel [.int .i64 0, .int .i64 0, S []] 25)] w ∧ RdZ Z v14_4 1 (eI .i64) y14_3) ?_ fun Q67 hN67 hO67 => ?_
     ·
      rintro a w ⟨Z, s68, hS, h, H, r14_4⟩
      subst eJ68
      refine c_cond h rfl (fun ec69 => ?_) (fun ec69 => ?_)
      ·
       have hS := ifT ec69 hS
       refine c_seq _ (fun a w c => c) fun Q70 hN70 hO70 => ?_
       have hret70 := hO70.ret hret6
       have hx0_70 := hO70.exit (i := 0) rfl hx0_6
       refine c_region fun K hK => ?_
       refine st1 h rfl rfl rfl (v_move rfl) fun a h => ?_
       obtain ⟨c71, hS⟩ := ck hS
       obtain ⟨z92_72, ez92_72, hS⟩ := bv hS
       refine st_idx h Tryz.underlying52 Tryz.sizeOf2 rfl rfl (r14_4.at H.zin) (fun _ => rfl) z92_72 c71.1 (by rw [ez92_72]; exact gel_some c71) rfl fun a v92 A92 h => ?_
       refine st1 h rfl rfl rfl (v_loadAt1 rfl A92 Tryz.isAgg2 rfl) fun a h => ?_
       obtain ⟨z94_73, ez94_73, hS⟩ := bv hS
       refine st1 h rfl rfl rfl (vB ez94_73 (v_lt rfl rfl)) fun a h => ?_
       refine st1 h rfl rfl rfl (v_move rfl) fun a h => ?_
       refine st_g h rfl rfl (gF rfl) rfl rfl (fun e0 => v_move rfl) fun a h => ?_
       obtain ⟨c74, hS⟩ := ck hS
       obtain ⟨z97_75, ez97_75, hS⟩ := bv hS
       refine st_idxG h rfl (gF rfl) Tryz.underlying52 Tryz.sizeOf2 (fun e0 => (eg e0 rfl)) (fun e0 => rfl) (r14_4.at H.zin) (fun _ => rfl) z97_75 (fun e0 => (c74 e0).1) (fun e0 => (by rw [ez97_75]; exact gel_some (c74 e0))) rfl fun a v97 A97 h => ?_
       refine st_g h rfl rfl (gF rfl) rfl rfl (fun e0 => v_loadAt1 (eg e0 rfl) (A97 e0) Tryz.isAgg2 rfl) fun a h => ?_
       obtain ⟨z99_76, ez99_76, hS⟩ := bv hS
       refine st_g h rfl rfl (gF rfl) rfl rfl (fun e0 => vB ez99_76 (v_lt (eg e0 rfl) rfl)) fun a h => ?_
       obtain ⟨z100_77, ez100_77, hS⟩ := bv hS
       refine st1 h rfl rfl rfl (vB ez100_77 (v_or rfl rfl)) fun a h => ?_
       refine c_nil hK ?_
       have h := h.only [0, 6, 7, 100] (l' := [_, _, _, _]) rfl
       refine c_cond h rfl (fun ec78 => ?_) (fun ec78 => ?_)
       ·
        have hS := ifT ec78 hS
        refine c_region fun K hK => ?_
        obtain ⟨y101_79, hy101_79, hS⟩ := bo hS
        refine st2v (T := Ext) (V := .agg #[.int .i64 y101_79.k, .int .i64 y101_79.n, S y101_79.s]) h rfl rfl rfl (d_call [_] rfl Tryz.call13 (value_Fail_ok (x0 := (5 : Int)) hy101_79)) fun w X a h => ?_
        have H := H.ext X
        refine z_store h H 0 rfl rfl rfl Tryz.sizeOf25 [_, _, _] rfl rfl rfl (by simp) [_, _, _] rfl (hl' := [_]) rfl fun w H => ?_
        refine c_nil hK ?_
        have h := h.only [6] (l' := [_]) rfl
        obtain rfl := so hS
        refine c_ret (hret70 _ _ (out1 h rfl ⟨_, rfl, run_loadVar_agg (vs := [_, _, _]) Tryz.isAgg25 Tryz.sizeOf25 (H.hp.get 0 rfl) rfl rfl⟩ ?_))
        exact ⟨rfl, H.out⟩
       ·
        have hS := ifF ec78 hS
        refine c_skip ?_
        refine hN70 _ _ ?_
        refine c_flow h (by kernel_rfl) (by kernel_rfl) ?_
        refine f1 [7] rfl rfl rfl rfl (fun w X => v_move rfl) ?_
        obtain ⟨c80, hS⟩ := ck hS
        obtain ⟨z103_81, ez103_81, hS⟩ := bv hS
        refine f_op [102] rfl rfl rfl rfl false (.rel (fun w' v' => At w' v' (eI .i64) z103_81 0)) at_stab (fun w X => ?_) ?_
        ·
         skip
         exact have H := H.ext X; d_idx Tryz.underlying52 Tryz.sizeOf2 rfl rfl (r14_4.at H.zin) (fun _ => rfl) z103_81 c80.1 (by rw [ez103_81]; exact gel_some c80)
        refine f_op [103] rfl rfl rfl rfl false (.eq (.int .i64 z103_81)) trivial (fun w X => ?_) ?_
        ·
         intro v103 h103
         exact (v_loadAt1 rfl h103 Tryz.isAgg2 rfl).doesF
        refine f1 [7] rfl rfl rfl rfl (fun w X => v_move rfl) ?_
        obtain ⟨c82, hS⟩ := ck hS
        obtain ⟨z106_83, ez106_83, hS⟩ := bv hS
        refine f_op [105] rfl rfl rfl rfl false (.rel (fun w' v' => At w' v' (eI .i64) z106_83 0)) at_stab (fun w X => ?_) ?_
        ·
         skip
         exact have H := H.ext X; d_idx Tryz.underlying52 Tryz.sizeOf2 rfl rfl (r14_4.at H.zin) (fun _ => rfl) z106_83 c82.1 (by rw [ez106_83]; exact gel_some c82)
        refine f_op [106] rfl rfl rfl rfl false (.eq (.int .i64 z106_83)) trivial (fun w X => ?_) ?_
        ·
         intro v106 h106
         exact (v_loadAt1 rfl h106 Tryz.isAgg2 rfl).doesF
        obtain ⟨y108_84, hy108_84, hS⟩ := bo hS
        refine f2 (V := .int .i64 y108_84) [104, 107] rfl rfl rfl rfl (fun w X => d_call [_, _] rfl Tryz.call41 (maths_gcd_ok (x0 := z103_81) (x1 := z106_83) hy108_84)) ?_
        refine f1 [108] rfl rfl rfl rfl (fun w X => v_assign rfl) ?_
        refine fn_ ?_
        intro a w X hR hA
        have h := hR.out [0, 6, 7, 9]
        have h : Fr 142 [(9, _), (7, _), (6, _), (0, _)] a := h
        have H := H.ext X
        refine c_seq _ (fun a w c => c) fun Q85 hN85 hO85 => ?_
        have hret85 := hO85.ret hret6
        have hx0_85 := hO85.exit (i := 0) rfl hx0_6
        refine c_region fun K hK => ?_
        refine st1 h rfl rfl rfl (v_move rfl) fun a h => ?_
        obtain ⟨z110_86, ez110_86, hS⟩ := bv hS
        refine st1 h rfl rfl rfl (vB ez110_86 (v_seq rfl rfl)) fun a h => ?_
        refine st1 h rfl rfl rfl (v_move rfl) fun a h => ?_
        refine st_g h rfl rfl (gF rfl) rfl rfl (fun e0 => v_move rfl) fun a h => ?_
        obtain ⟨z113_87, ez113_87, hS⟩ := bv hS
        refine st_g h rfl rfl (gF rfl) rfl rfl (fun e0 => vB ez113_87 (v_eq (eg e0 rfl) rfl)) fun a h => ?_
        obtain ⟨z114_88, ez114_88, hS⟩ := bv hS
        refine st1 h rfl rfl rfl (vB ez114_88 (v_or rfl rfl)) fun a h => ?_
        refine c_nil hK ?_
        have h := h.only [6, 7, 9, 114] (l' := [_, _, _, _]) rfl
        refine c_cond h rfl (fun ec89 => ?_) (fun ec89 => ?_)
        ·
         have hS := ifT ec89 hS
         refine c_region fun K hK => ?_
         refine st1 h rfl rfl rfl (v_move rfl) fun a h => ?_
         obtain ⟨y116_90, hy116_90, hS⟩ := bo hS
         refine st2v (T := Ext) (V := .agg #[.int .i64 y116_90.k, .int .i64 y116_90.n, S y116_90.s]) h rfl rfl rfl (d_call [_] rfl Tryz.call34 (maths_back_ok (x0 := y108_84) hy116_90)) fun w X a h => ?_
         have H := H.ext X
         refine z_store h H 0 rfl rfl rfl Tryz.sizeOf25 [_, _, _] rfl rfl rfl (by simp) [_, _, _] rfl (hl' := [_]) rfl fun w H => ?_
         refine c_nil hK ?_
         have h := h.only [6] (l' := [_]) rfl
         obtain rfl := so hS
         refine c_ret (hret85 _ _ (out1 h rfl ⟨_, rfl, run_loadVar_agg (vs := [_, _, _]) Tryz.isAgg25 Tryz.sizeOf25 (H.hp.get 0 rfl) rfl rfl⟩ ?_))
         exact ⟨rfl, H.out⟩
        ·
         have hS := ifF ec89 hS
         refine c_skip ?_
         refine hN85 _ _ ?_
         refine c_region fun K hK => ?_
         refine st1 h rfl rfl rfl (v_move rfl) fun a h => ?_
         obtain ⟨c91, hS⟩ := ck hS
         obtain ⟨z118_92, ez118_92, hS⟩ := bv hS
         refine st_idx h Tryz.underlying52 Tryz.sizeOf2 rfl rfl (r14_4.at H.zin) (fun _ => rfl) z118_92 c91.1 (by rw [ez118_92]; exact gel_some c91) rfl fun a v118 A118 h => ?_
         refine st1 h rfl rfl rfl (v_loadAt1 rfl A118 Tryz.isAgg2 rfl) fun a h => ?_
         refine st1 h rfl rfl rfl (v_move rfl) fun a h => ?_
         obtain ⟨c93, hS⟩ := ck hS
         obtain ⟨z121_94, ez121_94, hS⟩ := bv hS
         refine st1 h rfl rfl rfl (vI ez121_94 (v_quow rfl rfl c93)) fun a h => ?_
         refine st1 h rfl rfl rfl (v_assign rfl) fun a h => ?_
         refine c_nil hK ?_
         have h := h.only [6, 7, 10] (l' := [_, _, _]) rfl
         refine c_seq _ (fun a w c => c) fun Q95 hN95 hO95 => ?_
         have hret95 := hO95.ret hret6
         have hx0_95 := hO95.exit (i := 0) rfl hx0_6
         refine c_region fun K hK => ?_
         refine st1 h rfl rfl rfl (v_move rfl) fun a h => ?_
         obtain ⟨c96, hS⟩ := ck hS
         obtain ⟨z123_97, ez123_97, hS⟩ := bv hS
         refine st_idx h Tryz.underlying52 Tryz.sizeOf2 rfl rfl (r14_4.at H.zin) (fun _ => rfl) z123_97 c96.1 (by rw [ez123_97]; exact gel_some c96) rfl fun a v123 A123 h => ?_
         refine st1 h rfl rfl rfl (v_loadAt1 rfl A123 Tryz.isAgg2 rfl) fun a h => ?_
         obtain ⟨z125_98, ez125_98, hS⟩ := bv hS
         refine st1 h rfl rfl rfl (vB ez125_98 (v_ne rfl rfl)) fun a h => ?_
         refine st1 h rfl rfl rfl (v_move rfl) fun a h => ?_
         refine st_g h rfl rfl (gT rfl) rfl rfl (fun e0 => v_move rfl) fun a h => ?_
         refine st_g h rfl rfl (gT rfl) rfl rfl (fun e0 => v_move rfl) fun a h => ?_
         obtain ⟨c99, hS⟩ := ck hS
         obtain ⟨z129_100, ez129_100, hS⟩ := bv hS
         refine st_idxG h rfl (gT rfl) Tryz.underlying52 Tryz.sizeOf2 (fun e0 => (eg e0 rfl)) (fun e0 => rfl) (r14_4.at H.zin) (fun _ => rfl) z129_100 (fun e0 => (c99 e0).1) (fun e0 => (by rw [ez129_100]; exact gel_some (c99 e0))) rfl fun a v129 A129 h => ?_
         refine st_g h rfl rfl (gT rfl) rfl rfl (fun e0 => v_loadAt1 (eg e0 rfl) (A129 e0) Tryz.isAgg2 rfl) fun a h => ?_
         obtain ⟨c101, hS⟩ := ck hS
         obtain ⟨z131_102, ez131_102, hS⟩ := bv hS
         refine st_g h rfl rfl (gT rfl) rfl rfl (fun e0 => vI ez131_102 (v_quow rfl (eg e0 rfl) (c101 e0))) fun a h => ?_
         obtain ⟨z132_103, ez132_103, hS⟩ := bv hS
         refine st_g h rfl rfl (gT rfl) rfl rfl (fun e0 => vB ez132_103 (v_gt (eg e0 rfl) (eg e0 rfl))) fun a h => ?_
         obtain ⟨z133_104, ez133_104, hS⟩ := bv hS
         refine st1 h rfl rfl rfl (vB ez133_104 (v_and rfl rfl)) fun a h => ?_
         refine c_nil hK ?_
         have h := h.only [6, 7, 10, 133] (l' := [_, _, _, _]) rfl
         refine c_cond h rfl (fun ec105 => ?_) (fun ec105 => ?_)
         ·
          have hS := ifT ec105 hS
          refine c_region fun K hK => ?_
          obtain ⟨y134_106, hy134_106, hS⟩ := bo hS
          refine st2v (T := Ext) (V := .agg #[.int .i64 y134_106.k, .int .i64 y134_106.n, S y134_106.s]) h rfl rfl rfl (d_call [_] rfl Tryz.call13 (value_Fail_ok (x0 := (5 : Int)) hy134_106)) fun w X a h => ?_
          have H := H.ext X
          refine z_store h H 0 rfl rfl rfl Tryz.sizeOf25 [_, _, _] rfl rfl rfl (by simp) [_, _, _] rfl (hl' := [_]) rfl fun w H => ?_
          refine c_nil hK ?_
          have h := h.only [6] (l' := [_]) rfl
          obtain rfl := so hS
          refine c_ret (hret95 _ _ (out1 h rfl ⟨_, rfl, run_loadVar_agg (vs := [_, _, _]) Tryz.isAgg25 Tryz.sizeOf25 (H.hp.get 0 rfl) rfl rfl⟩ ?_))
          exact ⟨rfl, H.out⟩
         ·
          have hS := ifF ec105 hS
          refine c_skip ?_
          refine hN95 _ _ ?_
          refine c_region fun K hK => ?_
          refine st1 h rfl rfl rfl (v_move rfl) fun a h => ?_
          refine st1 h rfl rfl rfl (v_move rfl) fun a h => ?_
          obtain ⟨c107, hS⟩ := ck hS
          obtain ⟨z137_108, ez137_108, hS⟩ := bv hS
          refine st_idx h Tryz.underlying52 Tryz.sizeOf2 rfl rfl (r14_4.at H.zin) (fun _ => rfl) z137_108 c107.1 (by rw [ez137_108]; exact gel_some c107) rfl fun a v137 A137 h => ?_
          refine st1 h rfl rfl rfl (v_loadAt1 rfl A137 Tryz.isAgg2 rfl) fun a h => ?_
          obtain ⟨z139_109, ez139_109, hS⟩ := bv hS
          refine st1 h rfl rfl rfl (vI ez139_109 (v_mulw rfl rfl)) fun a h => ?_
          obtain ⟨y140_110, hy140_110, hS⟩ := bo hS
          refine st2v (T := Ext) (V := .agg #[.int .i64 y140_110.k, .int .i64 y140_110.n, S y140_110.s]) h rfl rfl rfl (d_call [_] rfl Tryz.call34 (maths_back_ok (x0 := z139_109) hy140_110)) fun w X a h => ?_
          have H := H.ext X
          have A137 := At.ext A137 X
          refine z_store h H 0 rfl rfl rfl Tryz.sizeOf25 [_, _, _] rfl rfl rfl (by simp) [_, _, _] rfl (hl' := [_]) rfl fun w H => ?_
          refine c_nil hK ?_
          have h := h.only [6] (l' := [_]) rfl
          obtain rfl := so hS
          refine c_ret (hret6 _ _ (out1 h rfl ⟨_, rfl, run_loadVar_agg (vs := [_, _, _]) Tryz.isAgg25 Tryz.sizeOf25 (H.hp.get 0 rfl) rfl rfl⟩ ?_))
          exact ⟨rfl, H.out⟩
      ·
       have hS := ifF ec69 hS
       refine c_skip ?_
       refine hN6 _ _ ?_
       refine hN5 _ _ ?_
       refine c_region fun K hK => ?_
       obtain ⟨y141_111, hy141_111, hS⟩ := bo hS
       refine st2v (T := Ext) (V := .agg #[.int .i64 y141_111.k, .int .i64 y141_111.n, S y141_111.s]) h rfl rfl rfl (d_call [_] rfl Tryz.call13 (value_Fail_ok (x0 := (2 : Int)) hy141_111)) fun w X a h => ?_
       have H := H.ext X
       refine z_store h H 0 rfl rfl rfl Tryz.sizeOf25 [_, _, _] rfl rfl rfl (by simp) [_, _, _] rfl (hl' := [_]) rfl fun w H => ?_
       refine c_nil hK ?_
       have h := h.only [6] (l' := [_]) rfl
       obtain rfl := so hS
       refine c_ret (hret0 _ _ (out1 h rfl ⟨_, rfl, run_loadVar_agg (vs := [_, _, _]) Tryz.isAgg25 Tryz.sizeOf25 (H.hp.get 0 rfl) rfl rfl⟩ ?_))
       exact ⟨rfl, H.out⟩
     ·
      have hret67 := hO67.ret hret6
      have hx0_67 := hO67.exit (i := 0) rfl hx0_6
      refine c_region fun K hK => ?_
      obtain ⟨z89_112, ez89_112, hS⟩ := bv hS
      refine st1 h rfl rfl rfl (vB ez89_112 (v_seq rfl rfl)) fun a h => ?_
      refine st1 h rfl rfl rfl (v_assign rfl) fun a h => ?_
      refine c_nil hK ?_
      have h := h.only [0, 6, 7, 15, 88] (l' := [_, _, _, _, _]) rfl
      refine c_cond h rfl (fun ec113 => ?_) (fun ec113 => ?_)
      ·
       have hS := ifT ec113 hS
       refine c_skip ?_
       exact hN67 _ _ ⟨_, z89_112, hS, (h.only [0, 6, 7, 88] (l' := [_, _, _, _]) rfl), H, r14_4⟩
      ·
       have hS := ifF ec113 hS
       refine c_lregion ?_
       obtain ⟨z90_114, ez90_114, hS⟩ := bv hS
       refine st1 h rfl rfl rfl (vB ez90_114 (v_seq rfl rfl)) fun a h => ?_
       refine st1 h rfl rfl rfl (v_assign rfl) fun a h => ?_
       refine c_lnil ?_
       exact hN67 _ _ ⟨_, z90_114, hS, (h.only [0, 6, 7, 88] (l' := [_, _, _, _]) rfl), H, r14_4⟩

theorem texts_turned_ok {x0 : List UInt8} {x1 : Int} {x2 : Int} {res : (List UInt8)} {w0 : World} (hS : texts_turned x0 x1 x2 = some res) : Calls Tryz.prog 45 [S x0, .int .u8 x1, .int .u8 x2].toArray w0 (Ret fun v w => v = S res ∧ Ext w0 w) := by
 refine enter Tryz.func45 rfl rfl rfl fun Q a h hret0 hnor => ?_
 obtain ⟨Zi, Z, H⟩ : ∃ Zi Z, HZ w0 Zi Z [] w0 := ⟨_, _, HZ.start w0⟩
 have h := h.only [0, 1, 2] (l' := [_, _, _]) rfl
 unfold texts_turned at hS
 refine c_region fun K hK => ?_
 refine st1 h rfl rfl rfl (v_assign rfl) fun a h => ?_
 refine c_nil hK ?_
 refine c_region fun K hK => ?_
 refine st1 h rfl rfl rfl (v_move rfl) fun a h => ?_
 refine z_toBytes h H Tryz.underlying9 Tryz.underlying82 Tryz.underlying5 rfl rfl fun a p11_1 cap11_1 tl11_1 w X hcap1 H h => ?_
 obtain ⟨z11_2, ez11_2, hS⟩ := bv hS
 rw [← ez11_2] at H
 have H : HZ w0 _ _ [_] _ := H
 have lf0 : z11_2.length = x0.length := by rw [ez11_2]; simp [ofB]
 refine st1 h rfl rfl rfl (v_assign rfl) fun a h => ?_
 refine c_nil hK ?_
 have h := h.only [1, 2, 7] (l' := [_, _, _]) rfl
 obtain ⟨J4, eJ4, hS⟩ := bv hS
 refine c_seq (fun a w => ∃ (Z : FZ) (s4 : (List Int)), J4 s4 = some res ∧ Fr 39 [(7, .slice (some ⟨p11_1, 0, none⟩) x0.length cap11_1)] a ∧ HZ w0 Zi Z [.blk p11_1 (BRow s4 tl11_1 5 x0.length)] w ∧ s4.length = x0.length) ?_ fun Q3 hN3 hO3 => ?_
 ·
  rintro a w ⟨Z, s4, hS, h, H, lf0⟩
  subst eJ4
  refine c_region fun K hK => ?_
  refine st1 h rfl rfl rfl (v_move rfl) fun a h => ?_
  obtain ⟨c5, hS⟩ := ck hS
  obtain ⟨z38_6, ez38_6, hS⟩ := bv hS
  refine st1 h rfl rfl rfl (vS ez38_6 (v_toStrI Tryz.underlying82 Tryz.underlying5 Tryz.underlying9 rfl (Reads.of_B (H.hp.get 0 rfl) lf0) c5)) fun a h => ?_
  refine st1 h rfl rfl rfl (v_assign rfl) fun a h => ?_
  refine c_nil hK ?_
  obtain rfl := so hS
  refine c_ret (hret0 _ _ (out1 h rfl rfl ?_))
  exact ⟨rfl, H.out⟩
 ·
  have hret3 := hO3.ret hret0
  refine c_region fun K hK => ?_
  refine st1 h rfl rfl rfl (v_move rfl) fun a h => ?_
  refine st1 h rfl rfl rfl (v_len Tryz.underlying82 rfl (Reads.of_B (H.hp.get 0 rfl) lf0)) fun a h => ?_
  refine st1 h rfl rfl rfl (v_move rfl) fun a h => ?_
  refine c_nil hK ?_
  refine c_lblock fun Q7 hN7 hx0_7 hO7 => ?_
  have hret7 := hO7.ret hret3
  obtain ⟨B8, eB8, hS⟩ := bv hS
  refine c_loopN (fun mu_ a w => ∃ (Z : FZ) (s8 : Int × (List Int)), loopF B8 mu_ s8 = some res ∧ Fr 39 [(1, .int .u8 x1), (2, .int .u8 x2), (7, .slice (some ⟨p11_1, 0, none⟩) x0.length cap11_1), (12, .slice (some ⟨p11_1, 0, none⟩) x0.length cap11_1), (13, .int .i64 (z11_2.length : Int)), (14, .int .i64 s8.1)] a ∧ HZ w0 Zi Z [.blk p11_1 (BRow s8.2 tl11_1 5 x0.length)] w ∧ s8.2.length = x0.length) KK ⟨_, (0, z11_2), hS, (h.only [1, 2, 7, 12, 13, 14] (l' := [_, _, _, _, _, _]) rfl), H, lf0⟩ ?_
  rintro mu_ a w ⟨Z, s8, hS, h, H, lf0⟩ Q9 hN9 hO9
  obtain ⟨mu_, rfl, n8, en8, hS⟩ := lpX eB8 hS
  have hret9 := hO9.ret hret7
  have hx0_9 := hO9.exit (i := 0) rfl hx0_7
  refine c_region fun K hK => ?_
  obtain ⟨z15_10, ez15_10, hS⟩ := bv hS
  refine st1 h rfl rfl rfl (vB ez15_10 (v_lt rfl rfl)) fun a h => ?_
  refine c_nil hK ?_
  refine c_seq _ (fun a w c => c) fun Q11 hN11 hO11 => ?_
  have hret11 := hO11.ret hret9
  have hx0_11 := hO11.exit (i := 0) rfl hx0_9
  refine c_cond h rfl (fun ec12 => ?_) (fun ec12 => ?_)
  ·
   have hS := ifT ec12 hS
   refine c_skip ?_
   refine hN11 _ _ ?_
   refine c_block _ (fun a w c => c) fun Q13 hN13 hx1_13 hO13 => ?_
   have hret13 := hO13.ret hret9
   have hx0_13 := hO13.exit (i := 0) rfl hx0_9
   refine c_region fun K hK => ?_
   refine st1 h rfl rfl rfl (v_move rfl) fun a h => ?_
   obtain ⟨c14, hS⟩ := ck hS
   refine st1 h rfl rfl rfl (v_idxB (sz := 1) Tryz.underlying82 Tryz.sizeOf5 rfl rfl lf0 c14) fun a h => ?_
   obtain ⟨z18_15, ez18_15, hS⟩ := bv hS
   refine st1 h rfl rfl rfl (vI ez18_15 (v_loadB rfl Tryz.isAgg5 (H.hp.get 0 rfl) c14)) fun a h => ?_
   refine st1 h rfl rfl rfl (v_assign rfl) fun a h => ?_
   refine st1 h rfl rfl rfl (v_assign rfl) fun a h => ?_
   refine c_nil hK ?_
   have h := h.only [1, 2, 7, 8, 9, 12, 13, 14] (l' := [_, _, _, _, _, _, _, _]) rfl
   refine c_region fun K hK => ?_
   refine st1 h rfl rfl rfl (v_move rfl) fun a h => ?_
   refine st1 h rfl rfl rfl (v_move rfl) fun a h => ?_
   obtain ⟨z21_16, ez21_16, hS⟩ := bv hS
   refine st1 h rfl rfl rfl (vB ez21_16 (v_ge rfl rfl)) fun a h => ?_
   refine st1 h rfl rfl rfl (v_move rfl) fun a h => ?_
   refine st_g h rfl rfl (gT rfl) rfl rfl (fun e0 => v_move rfl) fun a h => ?_
   refine st_g h rfl rfl (gT rfl) rfl rfl (fun e0 => v_move rfl) fun a h => ?_
   obtain ⟨z25_17, ez25_17, hS⟩ := bv hS
   refine st_g h rfl rfl (gT rfl) rfl rfl (fun e0 => vI ez25_17 (v_addw (eg e0 rfl) rfl)) fun a h => ?_
   obtain ⟨z26_18, ez26_18, hS⟩ := bv hS
   refine st_g h rfl rfl (gT rfl) rfl rfl (fun e0 => vB ez26_18 (v_le (eg e0 rfl) (eg e0 rfl))) fun a h => ?_
   obtain ⟨z27_19, ez27_19, hS⟩ := bv hS
   refine st1 h rfl rfl rfl (vB ez27_19 (v_and rfl rfl)) fun a h => ?_
   refine c_nil hK ?_
   have h := h.only [1, 2, 7, 8, 9, 12, 13, 14, 27] (l' := [_, _, _, _, _, _, _, _, _]) rfl
   refine c_cond h rfl (fun ec20 => ?_) (fun ec20 => ?_)
   ·
    have hS := ifT ec20 hS
    refine c_lregion ?_
    refine st1 h rfl rfl rfl (v_move rfl) fun a h => ?_
    refine st1 h rfl rfl rfl (v_move rfl) fun a h => ?_
    refine st1 h rfl rfl rfl (v_move rfl) fun a h => ?_
    refine st1 h rfl rfl rfl (v_move rfl) fun a h => ?_
    obtain ⟨z32_21, ez32_21, hS⟩ := bv hS
    refine st1 h rfl rfl rfl (vI ez32_21 (v_subw rfl rfl)) fun a h => ?_
    refine st1 h rfl rfl rfl (v_move rfl) fun a h => ?_
    obtain ⟨z34_22, ez34_22, hS⟩ := bv hS
    refine st1 h rfl rfl rfl (vI ez34_22 (v_addw rfl rfl)) fun a h => ?_
    obtain ⟨c23, hS⟩ := ck hS
    refine st1 h rfl rfl rfl (v_idxB (sz := 1) Tryz.underlying82 Tryz.sizeOf5 rfl rfl lf0 c23) fun a h => ?_
    obtain ⟨zb0_24, ezb0_24, hS⟩ := bv hS
    refine z_storeB (i := 0) h H 0 rfl rfl rfl Tryz.sizeOf5 lf0 c23 (hl' := [_]) rfl fun w H => ?_
    rw [← ezb0_24] at H
    have lf0 : zb0_24.length = x0.length := by rw [ezb0_24, List.length_set]; exact lf0
    refine c_lnil ?_
    refine hN13 _ _ ?_
    have h := h.only [1, 2, 7, 12, 13, 14] (l' := [_, _, _, _, _, _]) rfl
    refine c_lregion ?_
    obtain ⟨z36_25, ez36_25, hS⟩ := bv hS
    refine st1 h rfl rfl rfl (vI ez36_25 (v_addw rfl rfl)) fun a h => ?_
    refine st1 h rfl rfl rfl (v_move rfl) fun a h => ?_
    refine c_lnil ?_
    exact hN9 _ _ _ (Nat.lt_succ_self _) ⟨_, (z36_25, zb0_24), lpN en8 hS, (h.only [1, 2, 7, 12, 13, 14] (l' := [_, _, _, _, _, _]) rfl), H, lf0⟩
   ·
    have hS := ifF ec20 hS
    refine c_skip ?_
    refine hN13 _ _ ?_
    refine c_lregion ?_
    obtain ⟨z36_26, ez36_26, hS⟩ := bv hS
    refine st1 h rfl rfl rfl (vI ez36_26 (v_addw rfl rfl)) fun a h => ?_
    refine st1 h rfl rfl rfl (v_move rfl) fun a h => ?_
    refine c_lnil ?_
    exact hN9 _ _ _ (Nat.lt_succ_self _) ⟨_, (z36_26, s8.2), lpN en8 hS, (h.only [1, 2, 7, 12, 13, 14] (l' := [_, _, _, _, _, _]) rfl), H, lf0⟩
  ·
   have hS := ifF ec12 hS
   refine c_exit ?_
   refine hx0_11 _ _ ?_
   exact hN3 _ _ ⟨_, s8.2, hS, (h.only [7] (l' := [_]) rfl), H, lf0⟩

theorem texts_One_ok {x0 : List UInt8} {x1 : List UInt8} {res : V} {w0 : World} (hS : texts_One x0 x1 = some res) : Calls Tryz.prog 19 [S x0, S x1].toArray w0 (Ret fun v w => v = .agg #[.int .i64 res.k, .int .i64 res.n, S res.s] ∧ Ext w0 w) := by
 refine enter Tryz.func19 rfl rfl rfl fun Q a h hret0 hnor => ?_
 obtain ⟨Zi, Z, H⟩ : ∃ Zi Z, HZ w0 Zi Z [] w0 := ⟨_, _, HZ.start w0⟩
 have h := h.only [0, 1] (l' := [_, _]) rfl
 unfold texts_One at hS
 refine c_region fun K hK => ?_
 refine z_alloc h H Tryz.zeroValue25 [_, _, _] rfl rfl fun a p4_1 w X H h => ?_
 have H : HZ w0 _ _ [_] _ := H
 refine c_nil hK ?_
 refine c_seq _ (fun a w c => c) fun Q2 hN2 hO2 => ?_
 have hret2 := hO2.ret hret0
 refine c_region fun K hK => ?_
 refine st1 h rfl rfl rfl (v_move rfl) fun a h => ?_
 refine c_nil hK ?_
 refine c_lblock fun Q3 hN3 hx0_3 hO3 => ?_
 have hret3 := hO3.ret hret2
 refine c_region fun K hK => ?_
 obtain ⟨z7_4, ez7_4, hS⟩ := bv hS
 refine st1 h rfl rfl rfl (vB ez7_4 (v_seq rfl rfl)) fun a h => ?_
 refine st1 h rfl rfl rfl (v_assign rfl) fun a h => ?_
 refine c_nil hK ?_
 refine c_cond h rfl (fun ec5 => ?_) (fun ec5 => ?_)
 ·
  have hS := ifT ec5 hS
  refine c_region fun K hK => ?_
  refine st1 h rfl rfl rfl (v_move rfl) fun a h => ?_
  obtain ⟨y9_6, hy9_6, hS⟩ := bo hS
  refine st2v (T := Ext) (V := .int .i64 y9_6) h rfl rfl rfl (d_call [_] rfl Tryz.call44 (texts_runes_ok (x0 := x1) hy9_6)) fun w X a h => ?_
  have H := H.ext X
  obtain ⟨y10_7, hy10_7, hS⟩ := bo hS
  refine st2v (T := Ext) (V := .tuple #[.int .i64 y10_7.1, .bool y10_7.2]) h rfl rfl rfl (d_call [_] rfl Tryz.call43 (num_Of_ok (x0 := y9_6) hy10_7)) fun w X a h => ?_
  have H := H.ext X
  refine st1 h rfl rfl rfl (v_extract rfl rfl) fun a h => ?_
  refine st1 h rfl rfl rfl (v_extract rfl rfl) fun a h => ?_
  obtain ⟨y13_8, hy13_8, hS⟩ := bo hS
  refine st2v (T := Ext) (V := .agg #[.int .i64 y13_8.k, .int .i64 y13_8.n, S y13_8.s]) h rfl rfl rfl (d_call [_, _] rfl Tryz.call35 (value_Made_ok (x0 := y10_7.1) (x1 := y10_7.2) hy13_8)) fun w X a h => ?_
  have H := H.ext X
  refine z_store h H 0 rfl rfl rfl Tryz.sizeOf25 [_, _, _] rfl rfl rfl (by simp) [_, _, _] rfl (hl' := [_]) rfl fun w H => ?_
  refine c_nil hK ?_
  have h := h.only [4] (l' := [_]) rfl
  obtain rfl := so hS
  refine c_ret (hret3 _ _ (out1 h rfl ⟨_, rfl, run_loadVar_agg (vs := [_, _, _]) Tryz.isAgg25 Tryz.sizeOf25 (H.hp.get 0 rfl) rfl rfl⟩ ?_))
  exact ⟨rfl, H.out⟩
 ·
  have hS := ifF ec5 hS
  refine c_region fun K hK => ?_
  obtain ⟨z15_9, ez15_9, hS⟩ := bv hS
  refine st1 h rfl rfl rfl (vB ez15_9 (v_seq rfl rfl)) fun a h => ?_
  refine st1 h rfl rfl rfl (v_assign rfl) fun a h => ?_
  refine c_nil hK ?_
  have h := h.only [1, 4, 5, 14] (l' := [_, _, _, _]) rfl
  refine c_cond h rfl (fun ec10 => ?_) (fun ec10 => ?_)
  ·
   have hS := ifT ec10 hS
   refine c_region fun K hK => ?_
   refine st1 h rfl rfl rfl (v_move rfl) fun a h => ?_
   obtain ⟨y17_11, hy17_11, hS⟩ := bo hS
   refine st2v (T := Ext) (V := S y17_11) h rfl rfl rfl (d_call [_, _, _] rfl Tryz.call45 (texts_turned_ok (x0 := x1) (x1 := (97 : Int)) (x2 := (65 : Int)) hy17_11)) fun w X a h => ?_
   have H := H.ext X
   obtain ⟨y18_12, hy18_12, hS⟩ := bo hS
   refine st2v (T := Ext) (V := .agg #[.int .i64 y18_12.k, .int .i64 y18_12.n, S y18_12.s]) h rfl rfl rfl (d_call [_] rfl Tryz.call25 (value_Text_ok (x0 := y17_11) hy18_12)) fun w X a h => ?_
   have H := H.ext X
   refine z_store h H 0 rfl rfl rfl Tryz.sizeOf25 [_, _, _] rfl rfl rfl (by simp) [_, _, _] rfl (hl' := [_]) rfl fun w H => ?_
   refine c_nil hK ?_
   have h := h.only [4] (l' := [_]) rfl
   obtain rfl := so hS
   refine c_ret (hret3 _ _ (out1 h rfl ⟨_, rfl, run_loadVar_agg (vs := [_, _, _]) Tryz.isAgg25 Tryz.sizeOf25 (H.hp.get 0 rfl) rfl rfl⟩ ?_))
   exact ⟨rfl, H.out⟩
  ·
   have hS := ifF ec10 hS
   refine c_region fun K hK => ?_
   obtain ⟨z20_13, ez20_13, hS⟩ := bv hS
   refine st1 h rfl rfl rfl (vB ez20_13 (v_seq rfl rfl)) fun a h => ?_
   refine st1 h rfl rfl rfl (v_assign rfl) fun a h => ?_
   refine c_nil hK ?_
   refine c_cond h rfl (fun ec14 => ?_) (fun ec14 => ?_)
   ·
    have hS := ifT ec14 hS
    refine c_region fun K hK => ?_
    refine st1 h rfl rfl rfl (v_move rfl) fun a h => ?_
    obtain ⟨y22_15, hy22_15, hS⟩ := bo hS
    refine st2v (T := Ext) (V := S y22_15) h rfl rfl rfl (d_call [_, _, _] rfl Tryz.call45 (texts_turned_ok (x0 := x1) (x1 := (65 : Int)) (x2 := (97 : Int)) hy22_15)) fun w X a h => ?_
    have H := H.ext X
    obtain ⟨y23_16, hy23_16, hS⟩ := bo hS
    refine st2v (T := Ext) (V := .agg #[.int .i64 y23_16.k, .int .i64 y23_16.n, S y23_16.s]) h rfl rfl rfl (d_call [_] rfl Tryz.call25 (value_Text_ok (x0 := y22_15) hy23_16)) fun w X a h => ?_
    have H := H.ext X
    refine z_store h H 0 rfl rfl rfl Tryz.sizeOf25 [_, _, _] rfl rfl rfl (by simp) [_, _, _] rfl (hl' := [_]) rfl fun w H => ?_
    refine c_nil hK ?_
    have h := h.only [4] (l' := [_]) rfl
    obtain rfl := so hS
    refine c_ret (hret3 _ _ (out1 h rfl ⟨_, rfl, run_loadVar_agg (vs := [_, _, _]) Tryz.isAgg25 Tryz.sizeOf25 (H.hp.get 0 rfl) rfl rfl⟩ ?_))
    exact ⟨rfl, H.out⟩
   ·
    have hS := ifF ec14 hS
    refine c_region fun K hK => ?_
    obtain ⟨z25_17, ez25_17, hS⟩ := bv hS
    refine st1 h rfl rfl rfl (vB ez25_17 (v_seq rfl rfl)) fun a h => ?_
    refine st1 h rfl rfl rfl (v_assign rfl) fun a h => ?_
    refine c_nil hK ?_
    have h := h.only [1, 4, 5, 24] (l' := [_, _, _, _]) rfl
    refine c_cond h rfl (fun ec18 => ?_) (fun ec18 => ?_)
    ·
     have hS := ifT ec18 hS
     refine c_region fun K hK => ?_
     refine st1 h rfl rfl rfl (v_move rfl) fun a h => ?_
     obtain ⟨y27_19, hy27_19, hS⟩ := bo hS
     refine st2v (T := Ext) (V := S y27_19) h rfl rfl rfl (d_call [_] rfl Tryz.call46 (texts_trimmed_ok (x0 := x1) hy27_19)) fun w X a h => ?_
     have H := H.ext X
     obtain ⟨y28_20, hy28_20, hS⟩ := bo hS
     refine st2v (T := Ext) (V := .agg #[.int .i64 y28_20.k, .int .i64 y28_20.n, S y28_20.s]) h rfl rfl rfl (d_call [_] rfl Tryz.call25 (value_Text_ok (x0 := y27_19) hy28_20)) fun w X a h => ?_
     have H := H.ext X
     refine z_store h H 0 rfl rfl rfl Tryz.sizeOf25 [_, _, _] rfl rfl rfl (by simp) [_, _, _] rfl (hl' := [_]) rfl fun w H => ?_
     refine c_nil hK ?_
     have h := h.only [4] (l' := [_]) rfl
     obtain rfl := so hS
     refine c_ret (hret3 _ _ (out1 h rfl ⟨_, rfl, run_loadVar_agg (vs := [_, _, _]) Tryz.isAgg25 Tryz.sizeOf25 (H.hp.get 0 rfl) rfl rfl⟩ ?_))
     exact ⟨rfl, H.out⟩
    ·
     have hS := ifF ec18 hS
     refine c_region fun K hK => ?_
     obtain ⟨z30_21, ez30_21, hS⟩ := bv hS
     refine st1 h rfl rfl rfl (vB ez30_21 (v_seq rfl rfl)) fun a h => ?_
     refine st1 h rfl rfl rfl (v_assign rfl) fun a h => ?_
     refine c_nil hK ?_
     refine c_cond h rfl (fun ec22 => ?_) (fun ec22 => ?_)
     ·
      have hS := ifT ec22 hS
      refine c_region fun K hK => ?_
      refine st1 h rfl rfl rfl (v_move rfl) fun a h => ?_
      refine st1 h rfl rfl rfl (v_build bld25 [_, _] [_, _, _] rfl rfl) fun a h => ?_
      obtain ⟨y33_23, hy33_23, hS⟩ := bo hS
      refine st2v (T := Ext) (V := .agg #[.int .i64 y33_23.k, .int .i64 y33_23.n, S y33_23.s]) h rfl rfl rfl (d_call [_] rfl Tryz.call14 (value_ToNum_ok (x0 := (⟨2, 0, x1⟩ : V)) hy33_23)) fun w X a h => ?_
      have H := H.ext X
      refine z_store h H 0 rfl rfl rfl Tryz.sizeOf25 [_, _, _] rfl rfl rfl (by simp) [_, _, _] rfl (hl' := [_]) rfl fun w H => ?_
      refine c_nil hK ?_
      have h := h.only [4] (l' := [_]) rfl
      obtain rfl := so hS
      refine c_ret (hret3 _ _ (out1 h rfl ⟨_, rfl, run_loadVar_agg (vs := [_, _, _]) Tryz.isAgg25 Tryz.sizeOf25 (H.hp.get 0 rfl) rfl rfl⟩ ?_))
      exact ⟨rfl, H.out⟩
     ·
      have hS := ifF ec22 hS
      refine c_skip ?_
      refine hN3 _ _ ?_
      refine hN2 _ _ ?_
      have h := h.only [4] (l' := [_]) rfl
      refine c_region fun K hK => ?_
      obtain ⟨y34_24, hy34_24, hS⟩ := bo hS
      refine st2v (T := Ext) (V := .agg #[.int .i64 y34_24.k, .int .i64 y34_24.n, S y34_24.s]) h rfl rfl rfl (d_call [_] rfl Tryz.call13 (value_Fail_ok (x0 := (2 : Int)) hy34_24)) fun w X a h => ?_
      have H := H.ext X
      refine z_store h H 0 rfl rfl rfl Tryz.sizeOf25 [_, _, _] rfl rfl rfl (by simp) [_, _, _] rfl (hl' := [_]) rfl fun w H => ?_
      refine c_nil hK ?_
      obtain rfl := so hS
      refine c_ret (hret0 _ _ (out1 h rfl ⟨_, rfl, run_loadVar_agg (vs := [_, _, _]) Tryz.isAgg25 Tryz.sizeOf25 (H.hp.get 0 rfl) rfl rfl⟩ ?_))
      exact ⟨rfl, H.out⟩

theorem texts_Part_ok {x0 : List UInt8} {x1 : List UInt8} {x2 : List (Int)} {res : V} {w0 : World} (hS : texts_Part x0 x1 x2 = some res) {xv2 : Value} (rp2 : RdZ (hz w0) xv2 1 (eI .i64) x2) : Calls Tryz.prog 20 [S x0, S x1, xv2].toArray w0 (Ret fun v w => v = .agg #[.int .i64 res.k, .int .i64 res.n, S res.s] ∧ Ext w0 w) := by
 refine enter Tryz.func20 rfl rfl rfl fun Q a h hret0 hnor => ?_
 obtain ⟨Zi, Z, H, rp2⟩ : ∃ Zi Z, HZ w0 Zi Z [] w0 ∧ RdZ Z xv2 1 (eI .i64) x2 := ⟨_, _, HZ.start w0, rp2⟩
 have h := h.only [0, 1, 2] (l' := [_, _, _]) rfl
 unfold texts_Part at hS
 refine c_region fun K hK => ?_
 refine z_alloc h H Tryz.zeroValue25 [_, _, _] rfl rfl fun a p6_1 w X H h => ?_
 have H : HZ w0 _ _ [_] _ := H
 refine c_nil hK ?_
 refine c_seq _ (fun a w c => c) fun Q2 hN2 hO2 => ?_
 have hret2 := hO2.ret hret0
 refine c_region fun K hK => ?_
 refine st1 h rfl rfl rfl (v_move rfl) fun a h => ?_
 refine st1 h rfl rfl rfl (v_len Tryz.underlying52 rfl (rp2.at H.zin)) fun a h => ?_
 obtain ⟨z14_3, ez14_3, hS⟩ := bv hS
 refine st1 h rfl rfl rfl (vB ez14_3 (v_eq rfl rfl)) fun a h => ?_
 refine c_nil hK ?_
 refine c_cond h rfl (fun ec4 => ?_) (fun ec4 => ?_)
 ·
  have hS := ifT ec4 hS
  refine c_region fun K hK => ?_
  obtain ⟨y15_5, hy15_5, hS⟩ := bo hS
  refine st2v (T := Ext) (V := .agg #[.int .i64 y15_5.k, .int .i64 y15_5.n, S y15_5.s]) h rfl rfl rfl (d_call [_] rfl Tryz.call13 (value_Fail_ok (x0 := (2 : Int)) hy15_5)) fun w X a h => ?_
  have H := H.ext X
  refine z_store h H 0 rfl rfl rfl Tryz.sizeOf25 [_, _, _] rfl rfl rfl (by simp) [_, _, _] rfl (hl' := [_]) rfl fun w H => ?_
  refine c_nil hK ?_
  have h := h.only [6] (l' := [_]) rfl
  obtain rfl := so hS
  refine c_ret (hret2 _ _ (out1 h rfl ⟨_, rfl, run_loadVar_agg (vs := [_, _, _]) Tryz.isAgg25 Tryz.sizeOf25 (H.hp.get 0 rfl) rfl rfl⟩ ?_))
  exact ⟨rfl, H.out⟩
 ·
  have hS := ifF ec4 hS
  refine c_skip ?_
  refine hN2 _ _ ?_
  refine c_region fun K hK => ?_
  refine st1 h rfl rfl rfl (v_move rfl) fun a h => ?_
  refine st1 h rfl rfl rfl (v_move rfl) fun a h => ?_
  refine st1 h rfl rfl rfl (v_len Tryz.underlying52 rfl (rp2.at H.zin)) fun a h => ?_
  obtain ⟨z20_6, ez20_6, hS⟩ := bv hS
  refine st1 h rfl rfl rfl (vI ez20_6 (v_subw rfl rfl)) fun a h => ?_
  obtain ⟨c7, hS⟩ := ck hS
  obtain ⟨z21_8, ez21_8, hS⟩ := bv hS
  refine st_idx h Tryz.underlying52 Tryz.sizeOf2 rfl rfl (rp2.at H.zin) (fun _ => rfl) z21_8 c7.1 (by rw [ez21_8]; exact gel_some c7) rfl fun a v21 A21 h => ?_
  refine st1 h rfl rfl rfl (v_loadAt1 rfl A21 Tryz.isAgg2 rfl) fun a h => ?_
  refine st1 h rfl rfl rfl (v_move rfl) fun a h => ?_
  obtain ⟨y24_9, hy24_9, hS⟩ := bo hS
  refine st2v (T := Ext) (V := .tuple #[.int .i64 y24_9.1, .bool y24_9.2]) h rfl rfl rfl (d_call [_, _] rfl Tryz.call47 (texts_count_ok (x0 := z21_8) (x1 := x1) hy24_9)) fun w X a h => ?_
  have H := H.ext X
  have A21 := At.ext A21 X
  refine st1 h rfl rfl rfl (v_move rfl) fun a h => ?_
  refine st1 h rfl rfl rfl (v_extract rfl rfl) fun a h => ?_
  refine st1 h rfl rfl rfl (v_extract rfl rfl) fun a h => ?_
  refine st1 h rfl rfl rfl (v_assign rfl) fun a h => ?_
  refine st1 h rfl rfl rfl (v_assign rfl) fun a h => ?_
  refine c_nil hK ?_
  have h := h.only [0, 1, 2, 6, 7, 8] (l' := [_, _, _, _, _, _]) rfl
  refine c_seq _ (fun a w c => c) fun Q10 hN10 hO10 => ?_
  have hret10 := hO10.ret hret0
  refine c_region fun K hK => ?_
  refine st1 h rfl rfl rfl (v_move rfl) fun a h => ?_
  obtain ⟨z28_11, ez28_11, hS⟩ := bv hS
  refine st1 h rfl rfl rfl (vB ez28_11 (v_not rfl)) fun a h => ?_
  refine c_nil hK ?_
  refine c_cond h rfl (fun ec12 => ?_) (fun ec12 => ?_)
  ·
   have hS := ifT ec12 hS
   refine c_region fun K hK => ?_
   obtain ⟨y29_13, hy29_13, hS⟩ := bo hS
   refine st2v (T := Ext) (V := .agg #[.int .i64 y29_13.k, .int .i64 y29_13.n, S y29_13.s]) h rfl rfl rfl (d_call [_] rfl Tryz.call13 (value_Fail_ok (x0 := (2 : Int)) hy29_13)) fun w X a h => ?_
   have H := H.ext X
   refine z_store h H 0 rfl rfl rfl Tryz.sizeOf25 [_, _, _] rfl rfl rfl (by simp) [_, _, _] rfl (hl' := [_]) rfl fun w H => ?_
   refine c_nil hK ?_
   have h := h.only [6] (l' := [_]) rfl
   obtain rfl := so hS
   refine c_ret (hret10 _ _ (out1 h rfl ⟨_, rfl, run_loadVar_agg (vs := [_, _, _]) Tryz.isAgg25 Tryz.sizeOf25 (H.hp.get 0 rfl) rfl rfl⟩ ?_))
   exact ⟨rfl, H.out⟩
  ·
   have hS := ifF ec12 hS
   refine c_skip ?_
   refine hN10 _ _ ?_
   refine c_seq _ (fun a w c => c) fun Q14 hN14 hO14 => ?_
   have hret14 := hO14.ret hret0
   refine c_region fun K hK => ?_
   refine st1 h rfl rfl rfl (v_move rfl) fun a h => ?_
   refine c_nil hK ?_
   have h := h.only [1, 2, 6, 7, 30] (l' := [_, _, _, _, _]) rfl
   refine c_lblock fun Q15 hN15 hx0_15 hO15 => ?_
   have hret15 := hO15.ret hret14
   refine c_region fun K hK => ?_
   obtain ⟨z32_16, ez32_16, hS⟩ := bv hS
   refine st1 h rfl rfl rfl (vB ez32_16 (v_seq rfl rfl)) fun a h => ?_
   refine st1 h rfl rfl rfl (v_assign rfl) fun a h => ?_
   refine c_nil hK ?_
   refine c_cond h rfl (fun ec17 => ?_) (fun ec17 => ?_)
   ·
    have hS := ifT ec17 hS
    refine c_region fun K hK => ?_
    refine st1 h rfl rfl rfl (v_move rfl) fun a h => ?_
    refine st1 h rfl rfl rfl (v_move rfl) fun a h => ?_
    obtain ⟨c18, hS⟩ := ck hS
    obtain ⟨z35_19, ez35_19, hS⟩ := bv hS
    refine st1 h rfl rfl rfl (vS ez35_19 (v_scutHi Tryz.underlying9 rfl rfl c18)) fun a h => ?_
    obtain ⟨y36_20, hy36_20, hS⟩ := bo hS
    refine st2v (T := Ext) (V := .agg #[.int .i64 y36_20.k, .int .i64 y36_20.n, S y36_20.s]) h rfl rfl rfl (d_call [_] rfl Tryz.call25 (value_Text_ok (x0 := z35_19) hy36_20)) fun w X a h => ?_
    have H := H.ext X
    refine z_store h H 0 rfl rfl rfl Tryz.sizeOf25 [_, _, _] rfl rfl rfl (by simp) [_, _, _] rfl (hl' := [_]) rfl fun w H => ?_
    refine c_nil hK ?_
    have h := h.only [6] (l' := [_]) rfl
    obtain rfl := so hS
    refine c_ret (hret15 _ _ (out1 h rfl ⟨_, rfl, run_loadVar_agg (vs := [_, _, _]) Tryz.isAgg25 Tryz.sizeOf25 (H.hp.get 0 rfl) rfl rfl⟩ ?_))
    exact ⟨rfl, H.out⟩
   ·
    have hS := ifF ec17 hS
    refine c_region fun K hK => ?_
    obtain ⟨z38_21, ez38_21, hS⟩ := bv hS
    refine st1 h rfl rfl rfl (vB ez38_21 (v_seq rfl rfl)) fun a h => ?_
    refine st1 h rfl rfl rfl (v_assign rfl) fun a h => ?_
    refine c_nil hK ?_
    refine c_cond h rfl (fun ec22 => ?_) (fun ec22 => ?_)
    ·
     have hS := ifT ec22 hS
     refine c_region fun K hK => ?_
     refine st1 h rfl rfl rfl (v_move rfl) fun a h => ?_
     refine st1 h rfl rfl rfl (v_move rfl) fun a h => ?_
     refine st1 h rfl rfl rfl (v_slen Tryz.underlying9 rfl) fun a h => ?_
     refine st1 h rfl rfl rfl (v_move rfl) fun a h => ?_
     obtain ⟨z43_23, ez43_23, hS⟩ := bv hS
     refine st1 h rfl rfl rfl (vI ez43_23 (v_subw rfl rfl)) fun a h => ?_
     obtain ⟨c24, hS⟩ := ck hS
     obtain ⟨z44_25, ez44_25, hS⟩ := bv hS
     refine st1 h rfl rfl rfl (vS ez44_25 (v_scutLo Tryz.underlying9 rfl rfl c24)) fun a h => ?_
     obtain ⟨y45_26, hy45_26, hS⟩ := bo hS
     refine st2v (T := Ext) (V := .agg #[.int .i64 y45_26.k, .int .i64 y45_26.n, S y45_26.s]) h rfl rfl rfl (d_call [_] rfl Tryz.call25 (value_Text_ok (x0 := z44_25) hy45_26)) fun w X a h => ?_
     have H := H.ext X
     refine z_store h H 0 rfl rfl rfl Tryz.sizeOf25 [_, _, _] rfl rfl rfl (by simp) [_, _, _] rfl (hl' := [_]) rfl fun w H => ?_
     refine c_nil hK ?_
     have h := h.only [6] (l' := [_]) rfl
     obtain rfl := so hS
     refine c_ret (hret15 _ _ (out1 h rfl ⟨_, rfl, run_loadVar_agg (vs := [_, _, _]) Tryz.isAgg25 Tryz.sizeOf25 (H.hp.get 0 rfl) rfl rfl⟩ ?_))
     exact ⟨rfl, H.out⟩
    ·
     have hS := ifF ec22 hS
     refine c_region fun K hK => ?_
     obtain ⟨z47_27, ez47_27, hS⟩ := bv hS
     refine st1 h rfl rfl rfl (vB ez47_27 (v_seq rfl rfl)) fun a h => ?_
     refine st1 h rfl rfl rfl (v_assign rfl) fun a h => ?_
     refine c_nil hK ?_
     have h := h.only [1, 2, 6, 7, 30, 46] (l' := [_, _, _, _, _, _]) rfl
     refine c_cond h rfl (fun ec28 => ?_) (fun ec28 => ?_)
     ·
      have hS := ifT ec28 hS
      refine c_region fun K hK => ?_
      refine st1 h rfl rfl rfl (v_move rfl) fun a h => ?_
      obtain ⟨c29, hS⟩ := ck hS
      obtain ⟨z49_30, ez49_30, hS⟩ := bv hS
      refine st_idx h Tryz.underlying52 Tryz.sizeOf2 rfl rfl (rp2.at H.zin) (fun _ => rfl) z49_30 c29.1 (by rw [ez49_30]; exact gel_some c29) rfl fun a v49 A49 h => ?_
      refine st1 h rfl rfl rfl (v_loadAt1 rfl A49 Tryz.isAgg2 rfl) fun a h => ?_
      obtain ⟨z51_31, ez51_31, hS⟩ := bv hS
      refine st1 h rfl rfl rfl (vI ez51_31 (v_quow rfl rfl (by decide))) fun a h => ?_
      refine st1 h rfl rfl rfl (v_assign rfl) fun a h => ?_
      refine c_nil hK ?_
      have h := h.only [1, 6, 7, 9] (l' := [_, _, _, _]) rfl
      refine c_seq _ (fun a w c => c) fun Q32 hN32 hO32 => ?_
      have hret32 := hO32.ret hret15
      have hx0_32 := hO32.exit (i := 0) rfl hx0_15
      refine c_region fun K hK => ?_
      refine st1 h rfl rfl rfl (v_move rfl) fun a h => ?_
      obtain ⟨z53_33, ez53_33, hS⟩ := bv hS
      refine st1 h rfl rfl rfl (vB ez53_33 (v_lt rfl rfl)) fun a h => ?_
      refine c_nil hK ?_
      refine c_cond h rfl (fun ec34 => ?_) (fun ec34 => ?_)
      ·
       have hS := ifT ec34 hS
       refine c_region fun K hK => ?_
       obtain ⟨y54_35, hy54_35, hS⟩ := bo hS
       refine st2v (T := Ext) (V := .agg #[.int .i64 y54_35.k, .int .i64 y54_35.n, S y54_35.s]) h rfl rfl rfl (d_call [_] rfl Tryz.call13 (value_Fail_ok (x0 := (2 : Int)) hy54_35)) fun w X a h => ?_
       have H := H.ext X
       refine z_store h H 0 rfl rfl rfl Tryz.sizeOf25 [_, _, _] rfl rfl rfl (by simp) [_, _, _] rfl (hl' := [_]) rfl fun w H => ?_
       refine c_nil hK ?_
       have h := h.only [6] (l' := [_]) rfl
       obtain rfl := so hS
       refine c_ret (hret32 _ _ (out1 h rfl ⟨_, rfl, run_loadVar_agg (vs := [_, _, _]) Tryz.isAgg25 Tryz.sizeOf25 (H.hp.get 0 rfl) rfl rfl⟩ ?_))
       exact ⟨rfl, H.out⟩
      ·
       have hS := ifF ec34 hS
       refine c_skip ?_
       refine hN32 _ _ ?_
       refine c_region fun K hK => ?_
       refine st1 h rfl rfl rfl (v_move rfl) fun a h => ?_
       obtain ⟨z56_36, ez56_36, hS⟩ := bv hS
       refine st1 h rfl rfl rfl (vI ez56_36 (v_subw rfl rfl)) fun a h => ?_
       refine st1 h rfl rfl rfl (v_move rfl) fun a h => ?_
       refine st1 h rfl rfl rfl (v_slen Tryz.underlying9 rfl) fun a h => ?_
       obtain ⟨z59_37, ez59_37, hS⟩ := bv hS
       refine st1 h rfl rfl rfl (vI ez59_37 (v_min Tryz.underlying2 rfl rfl)) fun a h => ?_
       refine st1 h rfl rfl rfl (v_assign rfl) fun a h => ?_
       refine c_nil hK ?_
       have h := h.only [1, 6, 7, 10] (l' := [_, _, _, _]) rfl
       refine c_region fun K hK => ?_
       refine st1 h rfl rfl rfl (v_move rfl) fun a h => ?_
       refine st1 h rfl rfl rfl (v_move rfl) fun a h => ?_
       refine st1 h rfl rfl rfl (v_move rfl) fun a h => ?_
       refine st1 h rfl rfl rfl (v_move rfl) fun a h => ?_
       obtain ⟨z64_38, ez64_38, hS⟩ := bv hS
       refine st1 h rfl rfl rfl (vI ez64_38 (v_addw rfl rfl)) fun a h => ?_
       refine st1 h rfl rfl rfl (v_move rfl) fun a h => ?_
       refine st1 h rfl rfl rfl (v_slen Tryz.underlying9 rfl) fun a h => ?_
       obtain ⟨z67_39, ez67_39, hS⟩ := bv hS
       refine st1 h rfl rfl rfl (vI ez67_39 (v_min Tryz.underlying3 rfl rfl)) fun a h => ?_
       obtain ⟨c40, hS⟩ := ck hS
       obtain ⟨z68_41, ez68_41, hS⟩ := bv hS
       refine st1 h rfl rfl rfl (vS ez68_41 (v_scut Tryz.underlying9 rfl rfl rfl c40)) fun a h => ?_
       obtain ⟨y69_42, hy69_42, hS⟩ := bo hS
       refine st2v (T := Ext) (V := .agg #[.int .i64 y69_42.k, .int .i64 y69_42.n, S y69_42.s]) h rfl rfl rfl (d_call [_] rfl Tryz.call25 (value_Text_ok (x0 := z68_41) hy69_42)) fun w X a h => ?_
       have H := H.ext X
       refine z_store h H 0 rfl rfl rfl Tryz.sizeOf25 [_, _, _] rfl rfl rfl (by simp) [_, _, _] rfl (hl' := [_]) rfl fun w H => ?_
       refine c_nil hK ?_
       have h := h.only [6] (l' := [_]) rfl
       obtain rfl := so hS
       refine c_ret (hret15 _ _ (out1 h rfl ⟨_, rfl, run_loadVar_agg (vs := [_, _, _]) Tryz.isAgg25 Tryz.sizeOf25 (H.hp.get 0 rfl) rfl rfl⟩ ?_))
       exact ⟨rfl, H.out⟩
     ·
      have hS := ifF ec28 hS
      refine c_region fun K hK => ?_
      obtain ⟨z71_43, ez71_43, hS⟩ := bv hS
      refine st1 h rfl rfl rfl (vB ez71_43 (v_seq rfl rfl)) fun a h => ?_
      refine st1 h rfl rfl rfl (v_assign rfl) fun a h => ?_
      refine c_nil hK ?_
      have h := h.only [1, 2, 6, 70] (l' := [_, _, _, _]) rfl
      refine c_cond h rfl (fun ec44 => ?_) (fun ec44 => ?_)
      ·
       have hS := ifT ec44 hS
       refine c_region fun K hK => ?_
       refine st1 h rfl rfl rfl (v_move rfl) fun a h => ?_
       obtain ⟨c45, hS⟩ := ck hS
       obtain ⟨z73_46, ez73_46, hS⟩ := bv hS
       refine st_idx h Tryz.underlying52 Tryz.sizeOf2 rfl rfl (rp2.at H.zin) (fun _ => rfl) z73_46 c45.1 (by rw [ez73_46]; exact gel_some c45) rfl fun a v73 A73 h => ?_
       refine st1 h rfl rfl rfl (v_loadAt1 rfl A73 Tryz.isAgg2 rfl) fun a h => ?_
       obtain ⟨z75_47, ez75_47, hS⟩ := bv hS
       refine st1 h rfl rfl rfl (vI ez75_47 (v_quow rfl rfl (by decide))) fun a h => ?_
       refine st1 h rfl rfl rfl (v_assign rfl) fun a h => ?_
       refine c_nil hK ?_
       have h := h.only [1, 6, 11] (l' := [_, _, _]) rfl
       refine c_seq _ (fun a w c => c) fun Q48 hN48 hO48 => ?_
       have hret48 := hO48.ret hret15
       have hx0_48 := hO48.exit (i := 0) rfl hx0_15
       refine c_region fun K hK => ?_
       refine st1 h rfl rfl rfl (v_move rfl) fun a h => ?_
       obtain ⟨z77_49, ez77_49, hS⟩ := bv hS
       refine st1 h rfl rfl rfl (vB ez77_49 (v_gt rfl rfl)) fun a h => ?_
       refine st1 h rfl rfl rfl (v_move rfl) fun a h => ?_
       refine st_g h rfl rfl (gT rfl) rfl rfl (fun e0 => v_move rfl) fun a h => ?_
       obtain ⟨z80_50, ez80_50, hS⟩ := bv hS
       refine st_g h rfl rfl (gT rfl) rfl rfl (fun e0 => vB ez80_50 (v_sne (eg e0 rfl) rfl)) fun a h => ?_
       obtain ⟨z81_51, ez81_51, hS⟩ := bv hS
       refine st1 h rfl rfl rfl (vB ez81_51 (v_and rfl rfl)) fun a h => ?_
       refine c_nil hK ?_
       have h := h.only [1, 6, 11, 81] (l' := [_, _, _, _]) rfl
       refine c_cond h rfl (fun ec52 => ?_) (fun ec52 => ?_)
       ·
        have hS := ifT ec52 hS
        refine c_region fun K hK => ?_
        obtain ⟨y82_53, hy82_53, hS⟩ := bo hS
        refine st2v (T := Ext) (V := .agg #[.int .i64 y82_53.k, .int .i64 y82_53.n, S y82_53.s]) h rfl rfl rfl (d_call [_] rfl Tryz.call13 (value_Fail_ok (x0 := (2 : Int)) hy82_53)) fun w X a h => ?_
        have H := H.ext X
        refine z_store h H 0 rfl rfl rfl Tryz.sizeOf25 [_, _, _] rfl rfl rfl (by simp) [_, _, _] rfl (hl' := [_]) rfl fun w H => ?_
        refine c_nil hK ?_
        have h := h.only [6] (l' := [_]) rfl
        obtain rfl := so hS
        refine c_ret (hret48 _ _ (out1 h rfl ⟨_, rfl, run_loadVar_agg (vs := [_, _, _]) Tryz.isAgg25 Tryz.sizeOf25 (H.hp.get 0 rfl) rfl rfl⟩ ?_))
        exact ⟨rfl, H.out⟩
       ·
        have hS := ifF ec52 hS
        refine c_skip ?_
        refine hN48 _ _ ?_
        refine c_region fun K hK => ?_
        refine st1 h rfl rfl rfl (v_move rfl) fun a h => ?_
        refine st1 h rfl rfl rfl (v_move rfl) fun a h => ?_
        obtain ⟨z85_54, ez85_54, hS⟩ := bv hS
        refine st1 h rfl rfl rfl (vI ez85_54 (v_min Tryz.underlying2 rfl rfl)) fun a h => ?_
        obtain ⟨c56, hS⟩ := ck hS
        obtain ⟨z86_57, ez86_57, hS⟩ := bv hS
        refine st2v (T := Ext) (V := S z86_57) h rfl rfl rfl ((by rw [ez86_57]; exact d_call [_, _] rfl Tryz.call48 (lib_repeat c56))) fun w X a h => ?_
        have H := H.ext X
        obtain ⟨y87_58, hy87_58, hS⟩ := bo hS
        refine st2v (T := Ext) (V := .agg #[.int .i64 y87_58.k, .int .i64 y87_58.n, S y87_58.s]) h rfl rfl rfl (d_call [_] rfl Tryz.call25 (value_Text_ok (x0 := z86_57) hy87_58)) fun w X a h => ?_
        have H := H.ext X
        refine z_store h H 0 rfl rfl rfl Tryz.sizeOf25 [_, _, _] rfl rfl rfl (by simp) [_, _, _] rfl (hl' := [_]) rfl fun w H => ?_
        refine c_nil hK ?_
        have h := h.only [6] (l' := [_]) rfl
        obtain rfl := so hS
        refine c_ret (hret15 _ _ (out1 h rfl ⟨_, rfl, run_loadVar_agg (vs := [_, _, _]) Tryz.isAgg25 Tryz.sizeOf25 (H.hp.get 0 rfl) rfl rfl⟩ ?_))
        exact ⟨rfl, H.out⟩
      ·
       have hS := ifF ec44 hS
       refine c_skip ?_
       refine hN15 _ _ ?_
       refine hN14 _ _ ?_
       refine c_region fun K hK => ?_
       obtain ⟨y88_59, hy88_59, hS⟩ := bo hS
       refine st2v (T := Ext) (V := .agg #[.int .i64 y88_59.k, .int .i64 y88_59.n, S y88_59.s]) h rfl rfl rfl (d_call [_] rfl Tryz.call13 (value_Fail_ok (x0 := (2 : Int)) hy88_59)) fun w X a h => ?_
       have H := H.ext X
       refine z_store h H 0 rfl rfl rfl Tryz.sizeOf25 [_, _, _] rfl rfl rfl (by simp) [_, _, _] rfl (hl' := [_]) rfl fun w H => ?_
       refine c_nil hK ?_
       have h := h.only [6] (l' := [_]) rfl
       obtain rfl := so hS
       refine c_ret (hret0 _ _ (out1 h rfl ⟨_, rfl, run_loadVar_agg (vs := [_, _, _]) Tryz.isAgg25 Tryz.sizeOf25 (H.hp.get 0 rfl) rfl rfl⟩ ?_))
       exact ⟨rfl, H.out⟩

theorem texts_More_ok {x0 : List UInt8} {x1 : List (List UInt8)} {res : V} {w0 : World} (hS : texts_More x0 x1 = some res) {xv1 : Value} (rp1 : RdZ (hz w0) xv1 1 eS x1) (hG : GW w0) : Calls Tryz.prog 21 [S x0, xv1].toArray w0 (Ret fun v w => v = .agg #[.int .i64 res.k, .int .i64 res.n, S res.s] ∧ Ext w0 w) := by
 refine enter Tryz.func21 rfl rfl rfl fun Q a h hret0 hnor => ?_
 obtain ⟨Zi, Z, H, rp1⟩ : ∃ Zi Z, HZ w0 Zi Z [] w0 ∧ RdZ Z xv1 1 eS x1 := ⟨_, _, HZ.start w0, rp1⟩
 have h := h.only [0, 1] (l' := [_, _]) rfl
 unfold texts_More at hS
 refine c_region fun K hK => ?_
 refine z_alloc h H Tryz.zeroValue25 [_, _, _] rfl rfl fun a p4_1 w X H h => ?_
 have H : HZ w0 _ _ [_] _ := H
 refine c_nil hK ?_
 refine c_block _ (fun a w c => c) fun Q2 hN2 hx0_2 hO2 => ?_
 have hret2 := hO2.ret hret0
 refine c_region fun K hK => ?_
 refine st1 h rfl rfl rfl (v_move rfl) fun a h => ?_
 obtain ⟨z8_3, ez8_3, hS⟩ := bv hS
 refine st1 h rfl rfl rfl (vB ez8_3 (v_seq rfl rfl)) fun a h => ?_
 refine st1 h rfl rfl rfl (v_assign rfl) fun a h => ?_
 refine c_nil hK ?_
 refine c_cond h rfl (fun ec4 => ?_) (fun ec4 => ?_)
 ·
  have hS := ifT ec4 hS
  refine c_region fun K hK => ?_
  refine st1 h rfl rfl rfl (v_move rfl) fun a h => ?_
  obtain ⟨c6, hS⟩ := ck hS
  obtain ⟨z10_7, ez10_7, hS⟩ := bv hS
  refine st2v (T := Ext) (V := S z10_7) h rfl rfl rfl ((by rw [ez10_7]; exact d_call [_, _] rfl Tryz.call49 (lib_join c6 (rp1.hz H.zin)))) fun w X a h => ?_
  have H := H.ext X
  obtain ⟨y11_8, hy11_8, hS⟩ := bo hS
  refine st2v (T := Ext) (V := .agg #[.int .i64 y11_8.k, .int .i64 y11_8.n, S y11_8.s]) h rfl rfl rfl (d_call [_] rfl Tryz.call25 (value_Text_ok (x0 := z10_7) hy11_8)) fun w X a h => ?_
  have H := H.ext X
  refine z_store h H 0 rfl rfl rfl Tryz.sizeOf25 [_, _, _] rfl rfl rfl (by simp) [_, _, _] rfl (hl' := [_]) rfl fun w H => ?_
  refine c_nil hK ?_
  have h := h.only [4] (l' := [_]) rfl
  obtain rfl := so hS
  refine c_ret (hret2 _ _ (out1 h rfl ⟨_, rfl, run_loadVar_agg (vs := [_, _, _]) Tryz.isAgg25 Tryz.sizeOf25 (H.hp.get 0 rfl) rfl rfl⟩ ?_))
  exact ⟨rfl, H.out⟩
 ·
  have hS := ifF ec4 hS
  refine c_region fun K hK => ?_
  refine st1 h rfl rfl rfl (v_move rfl) fun a h => ?_
  obtain ⟨z14_9, ez14_9, hS⟩ := bv hS
  refine st1 h rfl rfl rfl (vB ez14_9 (v_seq rfl rfl)) fun a h => ?_
  refine st1 h rfl rfl rfl (v_move rfl) fun a h => ?_
  refine st_g h rfl rfl (gT rfl) rfl rfl (fun e0 => v_move rfl) fun a h => ?_
  refine st_g h rfl rfl (gT rfl) rfl rfl (fun e0 => v_len Tryz.underlying36 (eg e0 rfl) (rp1.at H.zin)) fun a h => ?_
  obtain ⟨z18_10, ez18_10, hS⟩ := bv hS
  refine st_g h rfl rfl (gT rfl) rfl rfl (fun e0 => vB ez18_10 (v_eq (eg e0 rfl) rfl)) fun a h => ?_
  obtain ⟨z19_11, ez19_11, hS⟩ := bv hS
  refine st1 h rfl rfl rfl (vB ez19_11 (v_and rfl rfl)) fun a h => ?_
  refine st1 h rfl rfl rfl (v_assign rfl) fun a h => ?_
  refine c_nil hK ?_
  have h := h.only [0, 1, 4, 12] (l' := [_, _, _, _]) rfl
  refine c_cond h rfl (fun ec12 => ?_) (fun ec12 => ?_)
  ·
   have hS := ifT ec12 hS
   refine c_flowT 8 h (by kernel_rfl) (by kernel_rfl) fun K hK => ?_
   refine f1 [1] rfl rfl rfl rfl (fun w X => v_move rfl) ?_
   obtain ⟨c13, hS⟩ := ck hS
   obtain ⟨z21_14, ez21_14, hS⟩ := bv hS
   refine f_op [20] rfl rfl rfl rfl false (.rel (fun w' v' => At w' v' eS z21_14 0)) at_stab (fun w X => ?_) ?_
   ·
    skip
    exact have H := H.ext X; d_idx Tryz.underlying36 Tryz.sizeOf9 rfl rfl (rp1.at H.zin) (fun _ => rfl) z21_14 c13.1 (by rw [ez21_14]; exact gel_some c13)
   refine f_op [21] rfl rfl rfl rfl false (.eq (S z21_14)) trivial (fun w X => ?_) ?_
   ·
    intro v21 h21
    exact (v_loadAt1 rfl h21 Tryz.isAgg9 rfl).doesF
   refine f1 [1] rfl rfl rfl rfl (fun w X => v_move rfl) ?_
   obtain ⟨c15, hS⟩ := ck hS
   obtain ⟨z24_16, ez24_16, hS⟩ := bv hS
   refine f_op [23] rfl rfl rfl rfl false (.rel (fun w' v' => At w' v' eS z24_16 0)) at_stab (fun w X => ?_) ?_
   ·
    skip
    exact have H := H.ext X; d_idx Tryz.underlying36 Tryz.sizeOf9 rfl rfl (rp1.at H.zin) (fun _ => rfl) z24_16 c15.1 (by rw [ez24_16]; exact gel_some c15)
   refine f_op [24] rfl rfl rfl rfl false (.eq (S z24_16)) trivial (fun w X => ?_) ?_
   ·
    intro v24 h24
    exact (v_loadAt1 rfl h24 Tryz.isAgg9 rfl).doesF
   obtain ⟨z26_17, ez26_17, hS⟩ := bv hS
   refine f1 [22, 25] rfl rfl rfl rfl (fun w X => vB ez26_17 (v_seq rfl rfl)) ?_
   obtain ⟨y27_18, hy27_18, hS⟩ := bo hS
   refine f2 (V := .agg #[.int .i64 y27_18.k, .int .i64 y27_18.n, S y27_18.s]) [26] rfl rfl rfl rfl (fun w X => d_call [_] rfl Tryz.call24 (value_Bool_ok (x0 := z26_17) hy27_18)) ?_
   refine fn_ ?_
   intro a w X hR hA
   have h := hR.out [4, 27]
   have h : Fr 80 [(27, _), (4, _)] a := h
   have H := H.ext X
   refine z_store h H 0 rfl rfl rfl Tryz.sizeOf25 [_, _, _] rfl rfl rfl (by simp) [_, _, _] rfl (hl' := [_]) rfl fun w H => ?_
   refine c_nil hK ?_
   obtain rfl := so hS
   refine c_ret (hret2 _ _ (out1 h rfl ⟨_, rfl, run_loadVar_agg (vs := [_, _, _]) Tryz.isAgg25 Tryz.sizeOf25 (H.hp.get 0 rfl) rfl rfl⟩ ?_))
   exact ⟨rfl, H.out⟩
  ·
   have hS := ifF ec12 hS
   refine c_region fun K hK => ?_
   refine st1 h rfl rfl rfl (v_move rfl) fun a h => ?_
   obtain ⟨z30_19, ez30_19, hS⟩ := bv hS
   refine st1 h rfl rfl rfl (vB ez30_19 (v_seq rfl rfl)) fun a h => ?_
   refine st1 h rfl rfl rfl (v_move rfl) fun a h => ?_
   refine st_g h rfl rfl (gT rfl) rfl rfl (fun e0 => v_move rfl) fun a h => ?_
   refine st_g h rfl rfl (gT rfl) rfl rfl (fun e0 => v_len Tryz.underlying36 (eg e0 rfl) (rp1.at H.zin)) fun a h => ?_
   obtain ⟨z34_20, ez34_20, hS⟩ := bv hS
   refine st_g h rfl rfl (gT rfl) rfl rfl (fun e0 => vB ez34_20 (v_eq (eg e0 rfl) rfl)) fun a h => ?_
   obtain ⟨z35_21, ez35_21, hS⟩ := bv hS
   refine st1 h rfl rfl rfl (vB ez35_21 (v_and rfl rfl)) fun a h => ?_
   refine st1 h rfl rfl rfl (v_assign rfl) fun a h => ?_
   refine c_nil hK ?_
   have h := h.only [0, 1, 4, 28] (l' := [_, _, _, _]) rfl
   refine c_cond h rfl (fun ec22 => ?_) (fun ec22 => ?_)
   ·
    have hS := ifT ec22 hS
    refine c_flow h (by kernel_rfl) (by kernel_rfl) ?_
    refine f1 [1] rfl rfl rfl rfl (fun w X => v_move rfl) ?_
    obtain ⟨c23, hS⟩ := ck hS
    obtain ⟨z37_24, ez37_24, hS⟩ := bv hS
    refine f_op [36] rfl rfl rfl rfl false (.rel (fun w' v' => At w' v' eS z37_24 0)) at_stab (fun w X => ?_) ?_
    ·
     skip
     exact have H := H.ext X; d_idx Tryz.underlying36 Tryz.sizeOf9 rfl rfl (rp1.at H.zin) (fun _ => rfl) z37_24 c23.1 (by rw [ez37_24]; exact gel_some c23)
    refine f_op [37] rfl rfl rfl rfl false (.eq (S z37_24)) trivial (fun w X => ?_) ?_
    ·
     intro v37 h37
     exact (v_loadAt1 rfl h37 Tryz.isAgg9 rfl).doesF
    refine f1 [1] rfl rfl rfl rfl (fun w X => v_move rfl) ?_
    obtain ⟨c25, hS⟩ := ck hS
    obtain ⟨z40_26, ez40_26, hS⟩ := bv hS
    refine f_op [39] rfl rfl rfl rfl false (.rel (fun w' v' => At w' v' eS z40_26 0)) at_stab (fun w X => ?_) ?_
    ·
     skip
     exact have H := H.ext X; d_idx Tryz.underlying36 Tryz.sizeOf9 rfl rfl (rp1.at H.zin) (fun _ => rfl) z40_26 c25.1 (by rw [ez40_26]; exact gel_some c25)
    refine f_op [40] rfl rfl rfl rfl false (.eq (S z40_26)) trivial (fun w X => ?_) ?_
    ·
     intro v40 h40
     exact (v_loadAt1 rfl h40 Tryz.isAgg9 rfl).doesF
    obtain ⟨c28, hS⟩ := ck hS
    obtain ⟨z42_29, ez42_29, hS⟩ := bv hS
    refine f2 (V := .int .i64 z42_29) [38, 41] rfl rfl rfl rfl (fun w X => have H := H.ext X; (by rw [ez42_29]; exact d_call [_, _] rfl Tryz.call50 (lib_index c28 (hG.ext H.out)))) ?_
    refine f1 [42] rfl rfl rfl rfl (fun w X => v_assign rfl) ?_
    refine fn_ ?_
    intro a w X hR hA
    have h := hR.out [4, 5]
    have h : Fr 80 [(5, _), (4, _)] a := h
    have H := H.ext X
    refine c_seq _ (fun a w c => c) fun Q30 hN30 hO30 => ?_
    have hret30 := hO30.ret hret2
    have hx0_30 := hO30.exit (i := 0) rfl hx0_2
    refine c_region fun K hK => ?_
    refine st1 h rfl rfl rfl (v_move rfl) fun a h => ?_
    obtain ⟨z44_31, ez44_31, hS⟩ := bv hS
    refine st1 h rfl rfl rfl (vB ez44_31 (v_lt rfl rfl)) fun a h => ?_
    refine c_nil hK ?_
    refine c_cond h rfl (fun ec32 => ?_) (fun ec32 => ?_)
    ·
     have hS := ifT ec32 hS
     refine c_region fun K hK => ?_
     obtain ⟨y45_33, hy45_33, hS⟩ := bo hS
     refine st2v (T := Ext) (V := .agg #[.int .i64 y45_33.k, .int .i64 y45_33.n, S y45_33.s]) h rfl rfl rfl (d_call [_] rfl Tryz.call13 (value_Fail_ok (x0 := (2 : Int)) hy45_33)) fun w X a h => ?_
     have H := H.ext X
     refine z_store h H 0 rfl rfl rfl Tryz.sizeOf25 [_, _, _] rfl rfl rfl (by simp) [_, _, _] rfl (hl' := [_]) rfl fun w H => ?_
     refine c_nil hK ?_
     have h := h.only [4] (l' := [_]) rfl
     obtain rfl := so hS
     refine c_ret (hret30 _ _ (out1 h rfl ⟨_, rfl, run_loadVar_agg (vs := [_, _, _]) Tryz.isAgg25 Tryz.sizeOf25 (H.hp.get 0 rfl) rfl rfl⟩ ?_))
     exact ⟨rfl, H.out⟩
    ·
     have hS := ifF ec32 hS
     refine c_skip ?_
     refine hN30 _ _ ?_
     refine c_region fun K hK => ?_
     refine st1 h rfl rfl rfl (v_move rfl) fun a h => ?_
     obtain ⟨z47_34, ez47_34, hS⟩ := bv hS
     refine st1 h rfl rfl rfl (vI ez47_34 (v_addw rfl rfl)) fun a h => ?_
     obtain ⟨y48_35, hy48_35, hS⟩ := bo hS
     refine st2v (T := Ext) (V := .tuple #[.int .i64 y48_35.1, .bool y48_35.2]) h rfl rfl rfl (d_call [_] rfl Tryz.call43 (num_Of_ok (x0 := z47_34) hy48_35)) fun w X a h => ?_
     have H := H.ext X
     refine st1 h rfl rfl rfl (v_extract rfl rfl) fun a h => ?_
     refine st1 h rfl rfl rfl (v_extract rfl rfl) fun a h => ?_
     obtain ⟨y51_36, hy51_36, hS⟩ := bo hS
     refine st2v (T := Ext) (V := .agg #[.int .i64 y51_36.k, .int .i64 y51_36.n, S y51_36.s]) h rfl rfl rfl (d_call [_, _] rfl Tryz.call35 (value_Made_ok (x0 := y48_35.1) (x1 := y48_35.2) hy51_36)) fun w X a h => ?_
     have H := H.ext X
     refine z_store h H 0 rfl rfl rfl Tryz.sizeOf25 [_, _, _] rfl rfl rfl (by simp) [_, _, _] rfl (hl' := [_]) rfl fun w H => ?_
     refine c_nil hK ?_
     have h := h.only [4] (l' := [_]) rfl
     obtain rfl := so hS
     refine c_ret (hret2 _ _ (out1 h rfl ⟨_, rfl, run_loadVar_agg (vs := [_, _, _]) Tryz.isAgg25 Tryz.sizeOf25 (H.hp.get 0 rfl) rfl rfl⟩ ?_))
     exact ⟨rfl, H.out⟩
   ·
    have hS := ifF ec22 hS
    refine c_region fun K hK => ?_
    refine st1 h rfl rfl rfl (v_move rfl) fun a h => ?_
    obtain ⟨z54_37, ez54_37, hS⟩ := bv hS
    refine st1 h rfl rfl rfl (vB ez54_37 (v_seq rfl rfl)) fun a h => ?_
    refine st1 h rfl rfl rfl (v_move rfl) fun a h => ?_
    refine st_g h rfl rfl (gT rfl) rfl rfl (fun e0 => v_move rfl) fun a h => ?_
    refine st_g h rfl rfl (gT rfl) rfl rfl (fun e0 => v_len Tryz.underlying36 (eg e0 rfl) (rp1.at H.zin)) fun a h => ?_
    obtain ⟨z58_38, ez58_38, hS⟩ := bv hS
    refine st_g h rfl rfl (gT rfl) rfl rfl (fun e0 => vB ez58_38 (v_eq (eg e0 rfl) rfl)) fun a h => ?_
    obtain ⟨z59_39, ez59_39, hS⟩ := bv hS
    refine st1 h rfl rfl rfl (vB ez59_39 (v_and rfl rfl)) fun a h => ?_
    refine st1 h rfl rfl rfl (v_assign rfl) fun a h => ?_
    refine c_nil hK ?_
    have h := h.only [1, 4, 52] (l' := [_, _, _]) rfl
    refine c_cond h rfl (fun ec40 => ?_) (fun ec40 => ?_)
    ·
     have hS := ifT ec40 hS
     refine c_seq _ (fun a w c => c) fun Q41 hN41 hO41 => ?_
     have hret41 := hO41.ret hret2
     have hx0_41 := hO41.exit (i := 0) rfl hx0_2
     refine c_region fun K hK => ?_
     refine st1 h rfl rfl rfl (v_move rfl) fun a h => ?_
     obtain ⟨c42, hS⟩ := ck hS
     obtain ⟨z61_43, ez61_43, hS⟩ := bv hS
     refine st_idx h Tryz.underlying36 Tryz.sizeOf9 rfl rfl (rp1.at H.zin) (fun _ => rfl) z61_43 c42.1 (by rw [ez61_43]; exact gel_some c42) rfl fun a v61 A61 h => ?_
     refine st1 h rfl rfl rfl (v_loadAt1 rfl A61 Tryz.isAgg9 rfl) fun a h => ?_
     obtain ⟨z63_44, ez63_44, hS⟩ := bv hS
     refine st1 h rfl rfl rfl (vB ez63_44 (v_seq rfl rfl)) fun a h => ?_
     refine c_nil hK ?_
     have h := h.only [1, 4, 63] (l' := [_, _, _]) rfl
     refine c_cond h rfl (fun ec45 => ?_) (fun ec45 => ?_)
     ·
      have hS := ifT ec45 hS
      refine c_region fun K hK => ?_
      refine st1 h rfl rfl rfl (v_move rfl) fun a h => ?_
      obtain ⟨c46, hS⟩ := ck hS
      obtain ⟨z65_47, ez65_47, hS⟩ := bv hS
      refine st_idx h Tryz.underlying36 Tryz.sizeOf9 rfl rfl (rp1.at H.zin) (fun _ => rfl) z65_47 c46.1 (by rw [ez65_47]; exact gel_some c46) rfl fun a v65 A65 h => ?_
      refine st1 h rfl rfl rfl (v_loadAt1 rfl A65 Tryz.isAgg9 rfl) fun a h => ?_
      obtain ⟨y67_48, hy67_48, hS⟩ := bo hS
      refine st2v (T := Ext) (V := .agg #[.int .i64 y67_48.k, .int .i64 y67_48.n, S y67_48.s]) h rfl rfl rfl (d_call [_] rfl Tryz.call25 (value_Text_ok (x0 := z65_47) hy67_48)) fun w X a h => ?_
      have H := H.ext X
      have A65 := At.ext A65 X
      refine z_store h H 0 rfl rfl rfl Tryz.sizeOf25 [_, _, _] rfl rfl rfl (by simp) [_, _, _] rfl (hl' := [_]) rfl fun w H => ?_
      refine c_nil hK ?_
      have h := h.only [4] (l' := [_]) rfl
      obtain rfl := so hS
      refine c_ret (hret41 _ _ (out1 h rfl ⟨_, rfl, run_loadVar_agg (vs := [_, _, _]) Tryz.isAgg25 Tryz.sizeOf25 (H.hp.get 0 rfl) rfl rfl⟩ ?_))
      exact ⟨rfl, H.out⟩
     ·
      have hS := ifF ec45 hS
      refine c_skip ?_
      refine hN41 _ _ ?_
      refine c_flowT 11 h (by kernel_rfl) (by kernel_rfl) fun K hK => ?_
      refine f1 [1] rfl rfl rfl rfl (fun w X => v_move rfl) ?_
      obtain ⟨c49, hS⟩ := ck hS
      obtain ⟨z69_50, ez69_50, hS⟩ := bv hS
      refine f_op [68] rfl rfl rfl rfl false (.rel (fun w' v' => At w' v' eS z69_50 0)) at_stab (fun w X => ?_) ?_
      ·
       skip
       exact have H := H.ext X; d_idx Tryz.underlying36 Tryz.sizeOf9 rfl rfl (rp1.at H.zin) (fun _ => rfl) z69_50 c49.1 (by rw [ez69_50]; exact gel_some c49)
      refine f_op [69] rfl rfl rfl rfl false (.eq (S z69_50)) trivial (fun w X => ?_) ?_
      ·
       intro v69 h69
       exact (v_loadAt1 rfl h69 Tryz.isAgg9 rfl).doesF
      refine f1 [1] rfl rfl rfl rfl (fun w X => v_move rfl) ?_
      obtain ⟨c51, hS⟩ := ck hS
      obtain ⟨z72_52, ez72_52, hS⟩ := bv hS
      refine f_op [71] rfl rfl rfl rfl false (.rel (fun w' v' => At w' v' eS z72_52 0)) at_stab (fun w X => ?_) ?_
      ·
       skip
       exact have H := H.ext X; d_idx Tryz.underlying36 Tryz.sizeOf9 rfl rfl (rp1.at H.zin) (fun _ => rfl) z72_52 c51.1 (by rw [ez72_52]; exact gel_some c51)
      refine f_op [72] rfl rfl rfl rfl false (.eq (S z72_52)) trivial (fun w X => ?_) ?_
      ·
       intro v72 h72
       exact (v_loadAt1 rfl h72 Tryz.isAgg9 rfl).doesF
      refine f1 [1] rfl rfl rfl rfl (fun w X => v_move rfl) ?_
      obtain ⟨c53, hS⟩ := ck hS
      obtain ⟨z75_54, ez75_54, hS⟩ := bv hS
      refine f_op [74] rfl rfl rfl rfl false (.rel (fun w' v' => At w' v' eS z75_54 0)) at_stab (fun w X => ?_) ?_
      ·
       skip
       exact have H := H.ext X; d_idx Tryz.underlying36 Tryz.sizeOf9 rfl rfl (rp1.at H.zin) (fun _ => rfl) z75_54 c53.1 (by rw [ez75_54]; exact gel_some c53)
      refine f_op [75] rfl rfl rfl rfl false (.eq (S z75_54)) trivial (fun w X => ?_) ?_
      ·
       intro v75 h75
       exact (v_loadAt1 rfl h75 Tryz.isAgg9 rfl).doesF
      obtain ⟨c56, hS⟩ := ck hS
      obtain ⟨z77_57, ez77_57, hS⟩ := bv hS
      refine f2 (V := S z77_57) [70, 73, 76] rfl rfl rfl rfl (fun w X => have H := H.ext X; (by rw [ez77_57]; exact d_call [_, _, _] rfl Tryz.call51 (lib_replaceAll c56 (hG.ext H.out)))) ?_
      obtain ⟨y78_58, hy78_58, hS⟩ := bo hS
      refine f2 (V := .agg #[.int .i64 y78_58.k, .int .i64 y78_58.n, S y78_58.s]) [77] rfl rfl rfl rfl (fun w X => d_call [_] rfl Tryz.call25 (value_Text_ok (x0 := z77_57) hy78_58)) ?_
      refine fn_ ?_
      intro a w X hR hA
      have h := hR.out [4, 78]
      have h : Fr 80 [(78, _), (4, _)] a := h
      have H := H.ext X
      refine z_store h H 0 rfl rfl rfl Tryz.sizeOf25 [_, _, _] rfl rfl rfl (by simp) [_, _, _] rfl (hl' := [_]) rfl fun w H => ?_
      refine c_nil hK ?_
      obtain rfl := so hS
      refine c_ret (hret2 _ _ (out1 h rfl ⟨_, rfl, run_loadVar_agg (vs := [_, _, _]) Tryz.isAgg25 Tryz.sizeOf25 (H.hp.get 0 rfl) rfl rfl⟩ ?_))
      exact ⟨rfl, H.out⟩
    ·
     have hS := ifF ec40 hS
     refine c_skip ?_
     refine hN2 _ _ ?_
     refine c_region fun K hK => ?_
     obtain ⟨y79_59, hy79_59, hS⟩ := bo hS
     refine st2v (T := Ext) (V := .agg #[.int .i64 y79_59.k, .int .i64 y79_59.n, S y79_59.s]) h rfl rfl rfl (d_call [_] rfl Tryz.call13 (value_Fail_ok (x0 := (2 : Int)) hy79_59)) fun w X a h => ?_
     have H := H.ext X
     refine z_store h H 0 rfl rfl rfl Tryz.sizeOf25 [_, _, _] rfl rfl rfl (by simp) [_, _, _] rfl (hl' := [_]) rfl fun w H => ?_
     refine c_nil hK ?_
     obtain rfl := so hS
     refine c_ret (hret0 _ _ (out1 h rfl ⟨_, rfl, run_loadVar_agg (vs := [_, _, _]) Tryz.isAgg25 Tryz.sizeOf25 (H.hp.get 0 rfl) rfl rfl⟩ ?_))
     exact ⟨rfl, H.out⟩

theorem lists_SumProduct_ok {x0 : List (V)} {x1 : List (V)} {res : V} {w0 : World} (hS : lists_SumProduct x0 x1 = some res) {xv0 : Value} (rp0 : RdZ (hz w0) xv0 3 vL x0) {xv1 : Value} (rp1 : RdZ (hz w0) xv1 3 vL x1) : Calls Tryz.prog 68 [xv0, xv1].toArray w0 (Ret fun v w => v = .agg #[.int .i64 res.k, .int .i64 res.n, S res.s] ∧ Ext w0 w) := by
 refine enter Tryz.func68 rfl rfl rfl fun Q a h hret0 hnor => ?_
 obtain ⟨Zi, Z, H, rp0, rp1⟩ : ∃ Zi Z, HZ w0 Zi Z [] w0 ∧ RdZ Z xv0 3 vL x0 ∧ RdZ Z xv1 3 vL x1 := ⟨_, _, HZ.start w0, rp0, rp1⟩
 have h := h.only [0, 1] (l' := [_, _]) rfl
 unfold lists_SumProduct at hS
 refine c_region fun K hK => ?_
 refine z_alloc h H Tryz.zeroValue25 [_, _, _] rfl rfl fun a p4_1 w X H h => ?_
 have H : HZ w0 _ _ [_] _ := H
 refine c_nil hK ?_
 refine c_seq _ (fun a w c => c) fun Q2 hN2 hO2 => ?_
 have hret2 := hO2.ret hret0
 refine c_region fun K hK => ?_
 refine st1 h rfl rfl rfl (v_move rfl) fun a h => ?_
 refine st1 h rfl rfl rfl (v_len Tryz.underlying22 rfl (rp0.at H.zin)) fun a h => ?_
 refine st1 h rfl rfl rfl (v_move rfl) fun a h => ?_
 refine st1 h rfl rfl rfl (v_len Tryz.underlying22 rfl (rp1.at H.zin)) fun a h => ?_
 obtain ⟨z12_3, ez12_3, hS⟩ := bv hS
 refine st1 h rfl rfl rfl (vB ez12_3 (v_ne rfl rfl)) fun a h => ?_
 refine c_nil hK ?_
 have h := h.only [0, 1, 4, 12] (l' := [_, _, _, _]) rfl
 refine c_cond h rfl (fun ec4 => ?_) (fun ec4 => ?_)
 ·
  have hS := ifT ec4 hS
  refine c_region fun K hK => ?_
  obtain ⟨y13_5, hy13_5, hS⟩ := bo hS
  refine st2v (T := Ext) (V := .agg #[.int .i64 y13_5.k, .int .i64 y13_5.n, S y13_5.s]) h rfl rfl rfl (d_call [_] rfl Tryz.call13 (value_Fail_ok (x0 := (2 : Int)) hy13_5)) fun w X a h => ?_
  have H := H.ext X
  refine z_store h H 0 rfl rfl rfl Tryz.sizeOf25 [_, _, _] rfl rfl rfl (by simp) [_, _, _] rfl (hl' := [_]) rfl fun w H => ?_
  refine c_nil hK ?_
  have h := h.only [4] (l' := [_]) rfl
  obtain rfl := so hS
  refine c_ret (hret2 _ _ (out1 h rfl ⟨_, rfl, run_loadVar_agg (vs := [_, _, _]) Tryz.isAgg25 Tryz.sizeOf25 (H.hp.get 0 rfl) rfl rfl⟩ ?_))
  exact ⟨rfl, H.out⟩
 ·
  have hS := ifF ec4 hS
  refine c_skip ?_
  refine hN2 _ _ ?_
  refine c_region fun K hK => ?_
  obtain ⟨y14_6, hy14_6, hS⟩ := bo hS
  refine st2v (T := Ext) (V := .agg #[.int .i64 y14_6.k, .int .i64 y14_6.n, S y14_6.s]) h rfl rfl rfl (d_call [_] rfl Tryz.call22 (value_Num_ok (x0 := (0 : Int)) hy14_6)) fun w X a h => ?_
  have H := H.ext X
  refine z_alloc h H Tryz.zeroValue25 [_, _, _] rfl rfl fun a p5_7 w X H h => ?_
  have H : HZ w0 _ _ [_, _] _ := H
  refine z_store h H 1 rfl rfl rfl Tryz.sizeOf25 [_, _, _] rfl rfl rfl (by simp) [_, _, _] rfl (hl' := [_, _]) rfl fun w H => ?_
  refine c_nil hK ?_
  obtain ⟨J9, eJ9, hS⟩ := bv hS
  refine c_seq (fun a w => ∃ (Z : FZ) (s9 : Int × Int × (List UInt8) × Int × Int × (List UInt8)), J9 s9 = some res ∧ Fr 67 [(4, .pointer (some ⟨p4_1, 0, none⟩)), (5, .pointer (some ⟨p5_7, 0, none⟩))] a ∧ HZ w0 Zi Z [.blk p4_1 (Cel [.int .i64 s9.1, .int .i64 s9.2.1, S s9.2.2.1] 25), .blk p5_7 (Cel [.int .i64 s9.2.2.2.1, .int .i64 s9.2.2.2.2.1, S s9.2.2.2.2.2] 25)] w) ?_ fun Q8 hN8 hO8 => ?_
  ·
   rintro a w ⟨Z, s9, hS, h, H⟩
   subst eJ9
   refine c_region fun K hK => ?_
   refine st1 h rfl rfl rfl (v_loadA [_, _, _] rfl Tryz.isAgg25 Tryz.sizeOf25 (H.hp.get 1 rfl) rfl rfl) fun a h => ?_
   refine z_store h H 0 rfl rfl rfl Tryz.sizeOf25 [_, _, _] rfl rfl rfl (by simp) [_, _, _] rfl (hl' := [_, _]) rfl fun w H => ?_
   refine c_nil hK ?_
   obtain rfl := so hS
   refine c_ret (hret0 _ _ (out1 h rfl ⟨_, rfl, run_loadVar_agg (vs := [_, _, _]) Tryz.isAgg25 Tryz.sizeOf25 (H.hp.get 0 rfl) rfl rfl⟩ ?_))
   exact ⟨rfl, H.out⟩
  ·
   have hret8 := hO8.ret hret0
   refine c_region fun K hK => ?_
   refine st1 h rfl rfl rfl (v_move rfl) fun a h => ?_
   refine st1 h rfl rfl rfl (v_len Tryz.underlying22 rfl (rp0.at H.zin)) fun a h => ?_
   refine st1 h rfl rfl rfl (v_move rfl) fun a h => ?_
   refine c_nil hK ?_
   refine c_lblock fun Q10 hN10 hx0_10 hO10 => ?_
   have hret10 := hO10.ret hret8
   obtain ⟨B11, eB11, hS⟩ := bv hS
   refine c_loopN (fun mu_ a w => ∃ (Z : FZ) (s11 : Int × Int × Int × (List UInt8) × Int × Int × (List UInt8)), loopF B11 mu_ s11 = some res ∧ Fr 67 [(0, xv0), (1, xv1), (4, .pointer (some ⟨p4_1, 0, none⟩)), (5, .pointer (some ⟨p5_7, 0, none⟩)), (16, .int .i64 (x0.length : Int)), (17, .int .i64 s11.1)] a ∧ HZ w0 Zi Z [.blk p4_1 (Cel [.int .i64 s11.2.1, .int .i64 s11.2.2.1, S s11.2.2.2.1] 25), .blk p5_7 (Cel [.int .i64 s11.2.2.2.2.1, .int .i64 s11.2.2.2.2.2.1, S s11.2.2.2.2.2.2] 25)] w ∧ RdZ Z xv0 3 vL x0 ∧ RdZ Z xv1 3 vL x1) KK ⟨_, (0, 0, 0, [], y14_6.k, y14_6.n, y14_6.s), hS, (h.only [0, 1, 4, 5, 16, 17] (l' := [_, _, _, _, _, _]) rfl), H, rp0, rp1⟩ ?_
   rintro mu_ a w ⟨Z, s11, hS, h, H, rp0, rp1⟩ Q12 hN12 hO12
   obtain ⟨mu_, rfl, n11, en11, hS⟩ := lpX eB11 hS
   have hret12 := hO12.ret hret10
   have hx0_12 := hO12.exit (i := 0) rfl hx0_10
   refine c_region fun K hK => ?_
   obtain ⟨z18_13, ez18_13, hS⟩ := bv hS
   refine st1 h rfl rfl rfl (vB ez18_13 (v_lt rfl rfl)) fun a h => ?_
   refine c_nil hK ?_
   refine c_seq _ (fun a w c => c) fun Q14 hN14 hO14 => ?_
   have hret14 := hO14.ret hret12
   have hx0_14 := hO14.exit (i := 0) rfl hx0_12
   refine c_cond h rfl (fun ec15 => ?_) (fun ec15 => ?_)
   ·
    have hS := ifT ec15 hS
    refine c_skip ?_
    refine hN14 _ _ ?_
    refine c_block _ (fun a w c => c) fun Q16 hN16 hx1_16 hO16 => ?_
    have hret16 := hO16.ret hret12
    have hx0_16 := hO16.exit (i := 0) rfl hx0_12
    refine c_region fun K hK => ?_
    refine st1 h rfl rfl rfl (v_move rfl) fun a h => ?_
    refine st1 h rfl rfl rfl (v_assign rfl) fun a h => ?_
    refine c_nil hK ?_
    refine c_seq _ (fun a w c => c) fun Q17 hN17 hO17 => ?_
    have hret17 := hO17.ret hret16
    have hx0_17 := hO17.exit (i := 0) rfl hx0_16
    have hx1_17 := hO17.exit (i := 1) rfl hx1_16
    refine c_region fun K hK => ?_
    refine st1 h rfl rfl rfl (v_move rfl) fun a h => ?_
    refine st1 h rfl rfl rfl (v_move rfl) fun a h => ?_
    obtain ⟨c18, hS⟩ := ck hS
    obtain ⟨z22_19, ez22_19, hS⟩ := bv hS
    refine st_idx h Tryz.underlying22 Tryz.sizeOf25 rfl rfl (rp0.at H.zin) (fun _ => rfl) z22_19 c18.1 (by rw [ez22_19]; exact gel_some c18) rfl fun a v22 A22 h => ?_
    refine st_fieldAt h rfl A22 Tryz.underlying25 rfl Tryz.sizeOf3 rfl rfl rfl fun a v23 A23 h => ?_
    refine st1 h rfl rfl rfl (v_loadAt1 rfl A23 Tryz.isAgg3 rfl) fun a h => ?_
    obtain ⟨z25_20, ez25_20, hS⟩ := bv hS
    refine st1 h rfl rfl rfl (vB ez25_20 (v_ne rfl rfl)) fun a h => ?_
    refine st1 h rfl rfl rfl (v_move rfl) fun a h => ?_
    refine st_g h rfl rfl (gF rfl) rfl rfl (fun e0 => v_move rfl) fun a h => ?_
    refine st_g h rfl rfl (gF rfl) rfl rfl (fun e0 => v_move rfl) fun a h => ?_
    obtain ⟨c21, hS⟩ := ck hS
    obtain ⟨z29_22, ez29_22, hS⟩ := bv hS
    refine st_idxG h rfl (gF rfl) Tryz.underlying22 Tryz.sizeOf25 (fun e0 => (eg e0 rfl)) (fun e0 => (eg e0 rfl)) (rp1.at H.zin) (fun _ => rfl) z29_22 (fun e0 => (c21 e0).1) (fun e0 => (by rw [ez29_22]; exact gel_some (c21 e0))) rfl fun a v29 A29 h => ?_
    refine st_fieldG h rfl (gF rfl) (fun e0 => (eg e0 rfl)) (fun e0 => (A29 e0)) Tryz.underlying25 rfl Tryz.sizeOf3 rfl rfl rfl fun a v30 A30 h => ?_
    refine st_g h rfl rfl (gF rfl) rfl rfl (fun e0 => v_loadAt1 (eg e0 rfl) (A30 e0) Tryz.isAgg3 rfl) fun a h => ?_
    obtain ⟨z32_23, ez32_23, hS⟩ := bv hS
    refine st_g h rfl rfl (gF rfl) rfl rfl (fun e0 => vB ez32_23 (v_ne (eg e0 rfl) rfl)) fun a h => ?_
    obtain ⟨z33_24, ez33_24, hS⟩ := bv hS
    refine st1 h rfl rfl rfl (vB ez33_24 (v_or rfl rfl)) fun a h => ?_
    refine c_nil hK ?_
    have h := h.only [0, 1, 4, 5, 6, 16, 17, 33] (l' := [_, _, _, _, _, _, _, _]) rfl
    refine c_cond h rfl (fun ec25 => ?_) (fun ec25 => ?_)
    ·
     have hS := ifT ec25 hS
     refine c_exit ?_
     refine hx1_17 _ _ ?_
     refine c_lregion ?_
     obtain ⟨z65_26, ez65_26, hS⟩ := bv hS
     refine st1 h rfl rfl rfl (vI ez65_26 (v_addw rfl rfl)) fun a h => ?_
     refine st1 h rfl rfl rfl (v_move rfl) fun a h => ?_
     refine c_lnil ?_
     exact hN12 _ _ _ (Nat.lt_succ_self _) ⟨_, (z65_26, s11.2.1, s11.2.2.1, s11.2.2.2.1, s11.2.2.2.2.1, s11.2.2.2.2.2.1, s11.2.2.2.2.2.2), lpN en11 hS, (h.only [0, 1, 4, 5, 16, 17] (l' := [_, _, _, _, _, _]) rfl), H, rp0, rp1⟩
    ·
     have hS := ifF ec25 hS
     refine c_skip ?_
     refine hN17 _ _ ?_
     refine c_flowT 13 h (by kernel_rfl) (by kernel_rfl) fun K hK => ?_
     refine f1 [5] rfl rfl rfl rfl (fun w X => have H := H.ext X; v_loadA [_, _, _] rfl Tryz.isAgg25 Tryz.sizeOf25 (H.hp.get 1 rfl) rfl rfl) ?_
     refine f1 [0] rfl rfl rfl rfl (fun w X => v_move rfl) ?_
     refine f1 [6] rfl rfl rfl rfl (fun w X => v_move rfl) ?_
     obtain ⟨c27, hS⟩ := ck hS
     obtain ⟨z37_28, ez37_28, hS⟩ := bv hS
     refine f_op [35, 36] rfl rfl rfl rfl false (.rel (fun w' v' => At w' v' vL z37_28 0)) at_stab (fun w X => ?_) ?_
     ·
      skip
      exact have H := H.ext X; d_idx Tryz.underlying22 Tryz.sizeOf25 rfl rfl (rp0.at H.zin) (fun _ => rfl) z37_28 c27.1 (by rw [ez37_28]; exact gel_some c27)
     refine f_op [37] rfl rfl rfl rfl false (.eq (.agg #[.int .i64 z37_28.k, .int .i64 z37_28.n, S z37_28.s])) trivial (fun w X => ?_) ?_
     ·
      intro v37 h37
      exact (v_loadAtA [_, _, _] rfl h37 Tryz.isAgg25 Tryz.sizeOf25 rfl rfl).doesF
     refine f1 [1] rfl rfl rfl rfl (fun w X => v_move rfl) ?_
     refine f1 [6] rfl rfl rfl rfl (fun w X => v_move rfl) ?_
     obtain ⟨c29, hS⟩ := ck hS
     obtain ⟨z41_30, ez41_30, hS⟩ := bv hS
     refine f_op [39, 40] rfl rfl rfl rfl false (.rel (fun w' v' => At w' v' vL z41_30 0)) at_stab (fun w X => ?_) ?_
     ·
      skip
      exact have H := H.ext X; d_idx Tryz.underlying22 Tryz.sizeOf25 rfl rfl (rp1.at H.zin) (fun _ => rfl) z41_30 c29.1 (by rw [ez41_30]; exact gel_some c29)
     refine f_op [41] rfl rfl rfl rfl false (.eq (.agg #[.int .i64 z41_30.k, .int .i64 z41_30.n, S z41_30.s])) trivial (fun w X => ?_) ?_
     ·
      intro v41 h41
      exact (v_loadAtA [_, _, _] rfl h41 Tryz.isAgg25 Tryz.sizeOf25 rfl rfl).doesF
     refine f_op [38, 42] rfl rfl rfl rfl false (.rel (fun w' v' => RdZ (ZB Z w.heap.size w') v' 3 vL ([z37_28, z41_30] : List (V)))) rd_stab (fun w X => ?_) ?_
     ·
      skip
      exact d_sliceR (enc := vL) ([z37_28, z41_30] : List (V)) H.zin X Tryz.underlying22 Tryz.sizeOf25 Tryz.zeroValue25 rfl (zl := [.int .i64 0, .int .i64 0, S [], .int .i64 0, .int .i64 0, S []]) (by kernel_rfl) (plA_get 2 3) [_, _] [_, _, _, _, _, _] rfl rfl rfl rfl
     obtain ⟨y44_31, hy44_31, hS⟩ := bo hS
     refine f_op [43] rfl rfl rfl rfl false (.eq (.agg #[.int .i64 y44_31.k, .int .i64 y44_31.n, S y44_31.s])) trivial (fun w X => ?_) ?_
     ·
      intro v43 h43
      exact have Hs := ZB.of H.zin X; have H := H.ext X; Does.doesF (d_call [_] rfl Tryz.call63 (lists_Product_ok (x0 := [z37_28, z41_30]) hy44_31 (h43.hz (ZB.inn H.zin))))
     refine f_op [34, 44] rfl rfl rfl rfl false (.rel (fun w' v' => RdZ (ZB Z w.heap.size w') v' 3 vL ([(⟨s11.2.2.2.2.1, s11.2.2.2.2.2.1, s11.2.2.2.2.2.2⟩ : V), y44_31] : List (V)))) rd_stab (fun w X => ?_) ?_
     ·
      skip
      exact d_sliceR (enc := vL) ([(⟨s11.2.2.2.2.1, s11.2.2.2.2.2.1, s11.2.2.2.2.2.2⟩ : V), y44_31] : List (V)) H.zin X Tryz.underlying22 Tryz.sizeOf25 Tryz.zeroValue25 rfl (zl := [.int .i64 0, .int .i64 0, S [], .int .i64 0, .int .i64 0, S []]) (by kernel_rfl) (plA_get 2 3) [_, _] [_, _, _, _, _, _] rfl rfl rfl rfl
     obtain ⟨y46_32, hy46_32, hS⟩ := bo hS
     refine f_op [45] rfl rfl rfl rfl false (.eq (.agg #[.int .i64 y46_32.k, .int .i64 y46_32.n, S y46_32.s])) trivial (fun w X => ?_) ?_
     ·
      intro v45 h45
      exact have Hs := ZB.of H.zin X; have H := H.ext X; Does.doesF (d_call [_] rfl Tryz.call62 (lists_Sum_ok (x0 := [(⟨s11.2.2.2.2.1, s11.2.2.2.2.2.1, s11.2.2.2.2.2.2⟩ : V), y44_31]) hy46_32 (h45.hz (ZB.inn H.zin))))
     refine fn_ ?_
     intro a w X hR hA
     have h := hR.out [0, 1, 4, 5, 6, 16, 17, 46]
     have h : Fr 67 [(46, _), (17, _), (16, _), (6, _), (5, _), (4, _), (1, _), (0, _)] a := h
     have H := H.ext X
     refine z_store h H 1 rfl rfl rfl Tryz.sizeOf25 [_, _, _] rfl rfl rfl (by simp) [_, _, _] rfl (hl' := [_, _]) rfl fun w H => ?_
     refine c_nil hK ?_
     refine c_seq _ (fun a w c => c) fun Q33 hN33 hO33 => ?_
     have hret33 := hO33.ret hret16
     have hx0_33 := hO33.exit (i := 0) rfl hx0_16
     have hx1_33 := hO33.exit (i := 1) rfl hx1_16
     refine c_flowT 11 h (by kernel_rfl) (by kernel_rfl) fun K hK => ?_
     refine f1 [0] rfl rfl rfl rfl (fun w X => v_move rfl) ?_
     refine f1 [6] rfl rfl rfl rfl (fun w X => v_move rfl) ?_
     obtain ⟨c34, hS⟩ := ck hS
     obtain ⟨z49_35, ez49_35, hS⟩ := bv hS
     refine f_op [47, 48] rfl rfl rfl rfl false (.rel (fun w' v' => At w' v' vL z49_35 0)) at_stab (fun w X => ?_) ?_
     ·
      skip
      exact have H := H.ext X; d_idx Tryz.underlying22 Tryz.sizeOf25 rfl rfl (rp0.at H.zin) (fun _ => rfl) z49_35 c34.1 (by rw [ez49_35]; exact gel_some c34)
     refine f_op [49] rfl rfl rfl rfl false (.eq (.agg #[.int .i64 z49_35.k, .int .i64 z49_35.n, S z49_35.s])) trivial (fun w X => ?_) ?_
     ·
      intro v49 h49
      exact (v_loadAtA [_, _, _] rfl h49 Tryz.isAgg25 Tryz.sizeOf25 rfl rfl).doesF
     refine f1 [1] rfl rfl rfl rfl (fun w X => v_move rfl) ?_
     refine f1 [6] rfl rfl rfl rfl (fun w X => v_move rfl) ?_
     obtain ⟨c36, hS⟩ := ck hS
     obtain ⟨z53_37, ez53_37, hS⟩ := bv hS
     refine f_op [51, 52] rfl rfl rfl rfl false (.rel (fun w' v' => At w' v' vL z53_37 0)) at_stab (fun w X => ?_) ?_
     ·
      skip
      exact have H := H.ext X; d_idx Tryz.underlying22 Tryz.sizeOf25 rfl rfl (rp1.at H.zin) (fun _ => rfl) z53_37 c36.1 (by rw [ez53_37]; exact gel_some c36)
     refine f_op [53] rfl rfl rfl rfl false (.eq (.agg #[.int .i64 z53_37.k, .int .i64 z53_37.n, S z53_37.s])) trivial (fun w X => ?_) ?_
     ·
      intro v53 h53
      exact (v_loadAtA [_, _, _] rfl h53 Tryz.isAgg25 Tryz.sizeOf25 rfl rfl).doesF
     refine f_op [50, 54] rfl rfl rfl rfl false (.rel (fun w' v' => RdZ (ZB Z w.heap.size w') v' 3 vL ([z49_35, z53_37] : List (V)))) rd_stab (fun w X => ?_) ?_
     ·
      skip
      exact d_sliceR (enc := vL) ([z49_35, z53_37] : List (V)) H.zin X Tryz.underlying22 Tryz.sizeOf25 Tryz.zeroValue25 rfl (zl := [.int .i64 0, .int .i64 0, S [], .int .i64 0, .int .i64 0, S []]) (by kernel_rfl) (plA_get 2 3) [_, _] [_, _, _, _, _, _] rfl rfl rfl rfl
     obtain ⟨y56_38, hy56_38, hS⟩ := bo hS
     refine f_op [55] rfl rfl rfl rfl false (.eq (.agg #[.int .i64 y56_38.k, .int .i64 y56_38.n, S y56_38.s])) trivial (fun w X => ?_) ?_
     ·
      intro v55 h55
      exact have Hs := ZB.of H.zin X; have H := H.ext X; Does.doesF (d_call [_] rfl Tryz.call63 (lists_Product_ok (x0 := [z49_35, z53_37]) hy56_38 (h55.hz (ZB.inn H.zin))))
     refine f_alloc Tryz.zeroValue25 [_, _, _] rfl rfl ?_
     refine fn_ ?_
     intro a w X hR hA
     obtain ⟨_, ⟨p7_39, rfl, hb7⟩, h⟩ := hR.out [0, 1, 4, 5, 7, 16, 17, 56]
     have h : Fr 67 [(56, _), (17, _), (16, _), (7, _), (5, _), (4, _), (1, _), (0, _)] a := h
     have lo7 := hA.lo' h (s := 7) rfl rfl
     have H := H.pushF X hb7 lo7
     have H : HZ w0 _ _ [_, _, _] _ := H
     refine z_store h H 2 rfl rfl rfl Tryz.sizeOf25 [_, _, _] rfl rfl rfl (by simp) [_, _, _] rfl (hl' := [_, _, _]) rfl fun w H => ?_
     refine c_nil hK ?_
     refine c_region fun K hK => ?_
     refine st1 h rfl rfl rfl (v_fieldAddr rfl Tryz.underlying25 rfl Tryz.sizeOf3 rfl rfl) fun a h => ?_
     refine st1 h rfl rfl rfl (v_load1 rfl Tryz.isAgg3 (H.hp.get 2 rfl) rfl) fun a h => ?_
     obtain ⟨z59_40, ez59_40, hS⟩ := bv hS
     refine st1 h rfl rfl rfl (vB ez59_40 (v_eq rfl rfl)) fun a h => ?_
     refine c_nil hK ?_
     refine c_cond h rfl (fun ec41 => ?_) (fun ec41 => ?_)
     ·
      have hS := ifT ec41 hS
      refine c_region fun K hK => ?_
      refine st1 h rfl rfl rfl (v_loadA [_, _, _] rfl Tryz.isAgg25 Tryz.sizeOf25 (H.hp.get 2 rfl) rfl rfl) fun a h => ?_
      refine z_store h H 0 rfl rfl rfl Tryz.sizeOf25 [_, _, _] rfl rfl rfl (by simp) [_, _, _] rfl (hl' := [_, _, _]) rfl fun w H => ?_
      refine c_nil hK ?_
      have h := h.only [4] (l' := [_]) rfl
      obtain rfl := so hS
      refine c_ret (hret33 _ _ (out1 h rfl ⟨_, rfl, run_loadVar_agg (vs := [_, _, _]) Tryz.isAgg25 Tryz.sizeOf25 (H.hp.get 0 rfl) rfl rfl⟩ ?_))
      exact ⟨rfl, H.out⟩
     ·
      have hS := ifF ec41 hS
      refine c_skip ?_
      refine hN33 _ _ ?_
      have h := h.only [0, 1, 4, 5, 16, 17] (l' := [_, _, _, _, _, _]) rfl
      refine c_region fun K hK => ?_
      refine st1 h rfl rfl rfl (v_fieldAddr rfl Tryz.underlying25 rfl Tryz.sizeOf3 rfl rfl) fun a h => ?_
      refine st1 h rfl rfl rfl (v_load1 rfl Tryz.isAgg3 (H.hp.get 1 rfl) rfl) fun a h => ?_
      obtain ⟨z63_42, ez63_42, hS⟩ := bv hS
      refine st1 h rfl rfl rfl (vB ez63_42 (v_eq rfl rfl)) fun a h => ?_
      refine c_nil hK ?_
      refine c_cond h rfl (fun ec43 => ?_) (fun ec43 => ?_)
      ·
       have hS := ifT ec43 hS
       refine c_region fun K hK => ?_
       refine st1 h rfl rfl rfl (v_loadA [_, _, _] rfl Tryz.isAgg25 Tryz.sizeOf25 (H.hp.get 1 rfl) rfl rfl) fun a h => ?_
       refine z_store h H 0 rfl rfl rfl Tryz.sizeOf25 [_, _, _] rfl rfl rfl (by simp) [_, _, _] rfl (hl' := [_, _, _]) rfl fun w H => ?_
       refine c_nil hK ?_
       have h := h.only [4] (l' := [_]) rfl
       obtain rfl := so hS
       refine c_ret (hret16 _ _ (out1 h rfl ⟨_, rfl, run_loadVar_agg (vs := [_, _, _]) Tryz.isAgg25 Tryz.sizeOf25 (H.hp.get 0 rfl) rfl rfl⟩ ?_))
       exact ⟨rfl, H.out⟩
      ·
       have hS := ifF ec43 hS
       refine c_skip ?_
       refine hN16 _ _ ?_
       refine c_lregion ?_
       obtain ⟨z65_44, ez65_44, hS⟩ := bv hS
       refine st1 h rfl rfl rfl (vI ez65_44 (v_addw rfl rfl)) fun a h => ?_
       refine st1 h rfl rfl rfl (v_move rfl) fun a h => ?_
       refine c_lnil ?_
       exact hN12 _ _ _ (Nat.lt_succ_self _) ⟨_, (z65_44, s11.2.1, s11.2.2.1, s11.2.2.2.1, y46_32.k, y46_32.n, y46_32.s), lpN en11 hS, (h.only [0, 1, 4, 5, 16, 17] (l' := [_, _, _, _, _, _]) rfl), (H.keepN 2 rfl), rp0, rp1⟩
   ·
    have hS := ifF ec15 hS
    refine c_exit ?_
    refine hx0_14 _ _ ?_
    exact hN8 _ _ ⟨_, (s11.2.1, s11.2.2.1, s11.2.2.2.1, s11.2.2.2.2.1, s11.2.2.2.2.2.1, s11.2.2.2.2.2.2), hS, (h.only [4, 5] (l' := [_, _]) rfl), H⟩
end Go.Proofs.YtnmkeanoidadcaaGreatDoor
