/- Walks of the functions of package lex, one. -/
import Derived.Test.YtdepoohfljaogaaDoorF
import Derived.Test.YtdepoohfljaogaaDoorLexPlain
import Derived.Test.YtdepoohfljaogaaDoorLexB
import Derived.Test.YtdepoohfljaogaaDoorShelf
set_option linter.unusedSimpArgs false
set_option linter.unusedVariables false
set_option linter.unusedSectionVars false
namespace Go.Proofs.YtdepoohfljaogaaDoor
open Go.Stp Go.RowKit Go.LexP
theorem one_ok (l : List UInt8) (w0 : World) (hne : 1 ≤ l.length) (hl : l.length ≤ 4611686018427387000) (hG : GF w0) : Calls Tryd.prog 13 [S l].toArray w0 (Ret fun v w => v = .tuple #[.agg #[.int .i64 (one l).1, S (one l).2.1, .int .i64 0], .int .i64 (one l).2.2] ∧ Ext w0 w) := by
  refine enter Tryd.func13 rfl rfl rfl fun Q a h hret0 hnor => ?_
  have H := Hp.start w0
  have h := h.only [0] (l' := [(0, _)]) rfl
  refine c_region fun K hK => ?_
  refine st_alloc h H Tryd.zeroValue28 [_, _, _] rfl rfl fun a p2 w x2 X H h => ?_
  refine st1 h rfl rfl rfl (v_assign rfl) fun a h => ?_
  refine c_nil hK ?_
  refine c_region fun K hK => ?_
  refine st1 h rfl rfl rfl (v_move rfl) fun a h => ?_
  refine st1 h rfl rfl rfl (v_sidx Tryd.underlying9 rfl rfl (by omega)) fun a h => ?_
  refine st1 h rfl rfl rfl (v_assign rfl) fun a h => ?_
  refine c_nil hK ?_
  refine c_block _ (fun a w c => c) fun Q3 hN3 hx0_3 hO3 => ?_
  have hret3 := hO3.ret hret0
  refine c_region fun K hK => ?_
  refine st1 h rfl rfl rfl (v_move rfl) fun a h => ?_
  refine st1b h rfl rfl rfl (v_ge rfl rfl) fun b17 e17 a h => ?_
  refine st1 h rfl rfl rfl (v_move rfl) fun a h => ?_
  refine st_g h rfl rfl (gT rfl) rfl rfl (fun e0 => v_move rfl) fun a h => ?_
  refine st_gb h rfl rfl (gT rfl) rfl rfl (fun e0 => v_le (eg e0 rfl) rfl) fun b20 e20 a h => ?_
  refine st1b h rfl rfl rfl (v_and rfl rfl) fun b21 e21 a h => ?_
  refine st1 h rfl rfl rfl (v_move rfl) fun a h => ?_
  refine st_g h rfl rfl (gF rfl) rfl rfl (fun e0 => v_move rfl) fun a h => ?_
  refine st_gb h rfl rfl (gF rfl) rfl rfl (fun e0 => v_eq (eg e0 rfl) rfl) fun b24 e24 a h => ?_
  refine st1b h rfl rfl rfl (v_or rfl rfl) fun b25 e25 a h => ?_
  refine st1 h rfl rfl rfl (v_assign rfl) fun a h => ?_
  refine c_nil hK ?_
  have h := h.only [0, 2, 4, 15] (l' := [(0, _), (2, _), (4, _), (15, _)]) rfl
  refine c_cond h rfl (fun ec15 => ?_) (fun ec15 => ?_)
  · simp only [e25, e24, e21, e20, e17, Bool.and_eq_true, Bool.or_eq_true, Bool.and_eq_false_iff, Bool.or_eq_false_iff, decide_eq_true_eq, decide_eq_false_iff_not, Bool.not_eq_true', Bool.not_eq_false', Bool.not_true, Bool.not_false, eq_self] at ec15
    have ec := ec15
    refine c_region fun K hK => ?_
    refine st1 h rfl rfl rfl (v_move rfl) fun a h => ?_
    refine st2v (T := Ext) h rfl rfl rfl (d_call [_, _] rfl Tryd.call15 (run_ok l isDig _ _ Tryd.call16 (by omega) (fun c w => isDig_ok c w))) fun w X a h => ?_
    have H := H.ext X
    have hrb := runL_bd isDig l
    refine st1 h rfl rfl rfl (v_assign rfl) fun a h => ?_
    refine c_nil hK ?_
    have h := h.only [0, 2, 5] (l' := [(0, _), (2, _), (5, _)]) rfl
    refine c_region fun K hK => ?_
    refine st1 h rfl rfl rfl (v_move rfl) fun a h => ?_
    refine st1 h rfl rfl rfl (v_move rfl) fun a h => ?_
    refine st1 h rfl rfl rfl (v_scutHi Tryd.underlying9 rfl rfl (by omega)) fun a h => ?_
    refine st1 h rfl rfl rfl (v_build bld28 [_, _] [_, _, _] rfl rfl) fun a h => ?_
    refine st1 h rfl rfl rfl (v_move rfl) fun a h => ?_
    refine st_store h H 0 rfl rfl rfl Tryd.sizeOf28 [_, _, _] rfl rfl rfl (by simp) [_, _, _] rfl (hl' := [_]) rfl fun w H hz hs => ?_
    refine st1 h rfl rfl rfl (v_assign rfl) fun a h => ?_
    refine c_nil hK ?_
    have h := h.only [2, 3] (l' := [(2, _), (3, _)]) rfl
    refine c_ret (hret3 _ _ (out2 h rfl ⟨_, rfl, run_loadVar_agg (vs := [_, _, _]) Tryd.isAgg28 Tryd.sizeOf28 (H.get 0 rfl) rfl rfl⟩ rfl ?_))
    refine ⟨?_, H.out⟩
    simp only [one]
    rw [if_pos ec15]
  · simp only [e25, e24, e21, e20, e17, Bool.and_eq_true, Bool.or_eq_true, Bool.and_eq_false_iff, Bool.or_eq_false_iff, decide_eq_true_eq, decide_eq_false_iff_not, Bool.not_eq_true', Bool.not_eq_false', Bool.not_true, Bool.not_false, eq_self] at ec15
    have ec := ec15
    refine c_region fun K hK => ?_
    refine st1 h rfl rfl rfl (v_move rfl) fun a h => ?_
    refine st1b h rfl rfl rfl (v_eq rfl rfl) fun b35 e35 a h => ?_
    refine st1 h rfl rfl rfl (v_assign rfl) fun a h => ?_
    refine c_nil hK ?_
    refine c_cond h rfl (fun ec33 => ?_) (fun ec33 => ?_)
    · simp only [e35, e25, e24, e21, e20, e17, Bool.and_eq_true, Bool.or_eq_true, Bool.and_eq_false_iff, Bool.or_eq_false_iff, decide_eq_true_eq, decide_eq_false_iff_not, Bool.not_eq_true', Bool.not_eq_false', Bool.not_true, Bool.not_false, eq_self] at ec33
      have ec := ec33
      refine c_region fun K hK => ?_
      refine st1 h rfl rfl rfl (v_move rfl) fun a h => ?_
      refine st2v (T := Ext) h rfl rfl rfl (d_call [_] rfl Tryd.call17 (text_ok l _ (by omega))) fun w X a h => ?_
      have H := H.ext X
      refine st1 h rfl rfl rfl (v_move rfl) fun a h => ?_
      refine st1 h rfl rfl rfl (v_extract rfl rfl) fun a h => ?_
      refine st1 h rfl rfl rfl (v_extract rfl rfl) fun a h => ?_
      refine st1 h rfl rfl rfl (v_assign rfl) fun a h => ?_
      refine st1 h rfl rfl rfl (v_assign rfl) fun a h => ?_
      refine c_nil hK ?_
      have h := h.only [2, 6, 7] (l' := [(2, _), (6, _), (7, _)]) rfl
      refine c_region fun K hK => ?_
      refine st1 h rfl rfl rfl (v_move rfl) fun a h => ?_
      refine st1 h rfl rfl rfl (v_build bld28 [_, _] [_, _, _] rfl rfl) fun a h => ?_
      refine st1 h rfl rfl rfl (v_move rfl) fun a h => ?_
      refine st_store h H 0 rfl rfl rfl Tryd.sizeOf28 [_, _, _] rfl rfl rfl (by simp) [_, _, _] rfl (hl' := [_]) rfl fun w H hz hs => ?_
      refine st1 h rfl rfl rfl (v_assign rfl) fun a h => ?_
      refine c_nil hK ?_
      have h := h.only [2, 3] (l' := [(2, _), (3, _)]) rfl
      refine c_ret (hret3 _ _ (out2 h rfl ⟨_, rfl, run_loadVar_agg (vs := [_, _, _]) Tryd.isAgg28 Tryd.sizeOf28 (H.get 0 rfl) rfl rfl⟩ rfl ?_))
      refine ⟨?_, H.out⟩
      simp only [one]
      rw [if_neg (by omega), if_pos ec33]
    · simp only [e35, e25, e24, e21, e20, e17, Bool.and_eq_true, Bool.or_eq_true, Bool.and_eq_false_iff, Bool.or_eq_false_iff, decide_eq_true_eq, decide_eq_false_iff_not, Bool.not_eq_true', Bool.not_eq_false', Bool.not_true, Bool.not_false, eq_self] at ec33
      have ec := ec33
      refine c_region fun K hK => ?_
      refine st1 h rfl rfl rfl (v_move rfl) fun a h => ?_
      refine st1b h rfl rfl rfl (v_eq rfl rfl) fun b46 e46 a h => ?_
      refine st1 h rfl rfl rfl (v_assign rfl) fun a h => ?_
      refine c_nil hK ?_
      have h := h.only [0, 2, 4, 44] (l' := [(0, _), (2, _), (4, _), (44, _)]) rfl
      refine c_cond h rfl (fun ec44 => ?_) (fun ec44 => ?_)
      · simp only [e46, e35, e25, e24, e21, e20, e17, Bool.and_eq_true, Bool.or_eq_true, Bool.and_eq_false_iff, Bool.or_eq_false_iff, decide_eq_true_eq, decide_eq_false_iff_not, Bool.not_eq_true', Bool.not_eq_false', Bool.not_true, Bool.not_false, eq_self] at ec44
        have ec := ec44
        refine c_seq _ (fun a w c => c) fun Q11 hN11 hO11 => ?_
        have hret11 := hO11.ret hret3
        have hx0_11 := hO11.exit (i := 0) rfl hx0_3
        refine c_region fun K hK => ?_
        refine st1 h rfl rfl rfl (v_assign rfl) fun a h => ?_
        refine c_nil hK ?_
        refine c_lblock fun Q13 hN13 hx1_13 hO13 => ?_
        have hret13 := hO13.ret hret11
        have hx0_13 := hO13.exit (i := 0) rfl hx0_11
        refine c_loopN (fun mu_ a w => ∃ i : Int, mu_ = (8 - i).toNat ∧ ((1 ≤ i ∧ i ≤ 8) ∧ ((enames.take (i - 1).toNat).find? (fun x => Lib.hasPrefix l x) = none)) ∧ Fr 90 [(0, S l), (2, .pointer (some ⟨p2, 0, none⟩)), (8, .int .i64 i)] a ∧ Hp w0 [.blk p2 (Cel [.int .i64 0, S [], .int .i64 0] 28)] w) _ ⟨1, rfl, ⟨by omega, rfl⟩, (h.only [0, 2, 8] (l' := [(0, _), (2, _), (8, _)]) rfl), H⟩ ?_
        rintro _ a w ⟨i, rfl, ⟨hi, hpre⟩, h, H⟩ Q14 hN14 hO14
        have hret14 := hO14.ret hret13
        have hx0_14 := hO14.exit (i := 0) rfl hx0_13
        have hx1_14 := hO14.exit (i := 1) rfl hx1_13
        refine c_seq _ (fun a w c => c) fun Q15 hN15 hO15 => ?_
        have hret15 := hO15.ret hret14
        have hx0_15 := hO15.exit (i := 0) rfl hx0_14
        have hx1_15 := hO15.exit (i := 1) rfl hx1_14
        refine c_region fun K hK => ?_
        refine st1 h rfl rfl rfl (v_move rfl) fun a h => ?_
        refine st1b h rfl rfl rfl (v_le rfl rfl) fun b48 e48 a h => ?_
        refine c_nil hK ?_
        refine c_cond h rfl (fun ec48 => ?_) (fun ec48 => ?_)
        · simp only [e48, Bool.and_eq_true, Bool.or_eq_true, Bool.and_eq_false_iff, Bool.or_eq_false_iff, decide_eq_true_eq, decide_eq_false_iff_not, Bool.not_eq_true', Bool.not_eq_false', Bool.not_true, Bool.not_false, eq_self] at ec48
          have ec := ec48
          refine c_skip ?_
          refine hN15 _ _ ?_
          refine c_block _ (fun a w c => c) fun Q17 hN17 hx2_17 hO17 => ?_
          have hret17 := hO17.ret hret14
          have hx0_17 := hO17.exit (i := 0) rfl hx0_14
          have hx1_17 := hO17.exit (i := 1) rfl hx1_14
          refine c_region fun K hK => ?_
          refine st1 h rfl rfl rfl (v_move rfl) fun a h => ?_
          refine st2v (T := Ext) h rfl rfl rfl (d_call [_] rfl Tryd.call12 (errName_ok _ _ (by omega) (GF.ext hG H.out))) fun w X a h => ?_
          have H := H.ext X
          refine st1 h rfl rfl rfl (v_assign rfl) fun a h => ?_
          refine c_nil hK ?_
          have h := h.only [0, 2, 8, 9] (l' := [(0, _), (2, _), (8, _), (9, _)]) rfl
          refine c_region fun K hK => ?_
          refine st1 h rfl rfl rfl (v_move rfl) fun a h => ?_
          refine st1 h rfl rfl rfl (v_move rfl) fun a h => ?_
          refine st2b (T := Ext) h rfl rfl rfl (d_call [_, _] rfl Tryd.call18 (hasPrefix_ok _ _ _)) fun b55 e55 w X a h => ?_
          have H := H.ext X
          refine c_nil hK ?_
          refine c_cond h rfl (fun ec55 => ?_) (fun ec55 => ?_)
          · simp only [e55, e48, Bool.and_eq_true, Bool.or_eq_true, Bool.and_eq_false_iff, Bool.or_eq_false_iff, decide_eq_true_eq, decide_eq_false_iff_not, Bool.not_eq_true', Bool.not_eq_false', Bool.not_true, Bool.not_false, eq_self] at ec55
            have ec := ec55
            refine c_region fun K hK => ?_
            refine st1 h rfl rfl rfl (v_move rfl) fun a h => ?_
            refine st1 h rfl rfl rfl (v_build bld28 [_, _] [_, _, _] rfl rfl) fun a h => ?_
            refine st1 h rfl rfl rfl (v_move rfl) fun a h => ?_
            refine st1 h rfl rfl rfl (v_slen Tryd.underlying9 rfl) fun a h => ?_
            refine st_store h H 0 rfl rfl rfl Tryd.sizeOf28 [_, _, _] rfl rfl rfl (by simp) [_, _, _] rfl (hl' := [_]) rfl fun w H hz hs => ?_
            refine st1 h rfl rfl rfl (v_assign rfl) fun a h => ?_
            refine c_nil hK ?_
            have h := h.only [2, 3] (l' := [(2, _), (3, _)]) rfl
            refine c_ret (hret17 _ _ (out2 h rfl ⟨_, rfl, run_loadVar_agg (vs := [_, _, _]) Tryd.isAgg28 Tryd.sizeOf28 (H.get 0 rfl) rfl rfl⟩ rfl ?_))
            refine ⟨?_, H.out⟩
            simp only [one]
            rw [if_neg (by omega), if_neg (by omega), if_pos ec44, find_hit _ enames (i - 1).toNat (errName i) hpre (by rw [errName, if_pos (by omega)]; exact getD_some _ _ [] (by show (i - 1).toNat < 7; omega)) ec55]
          · simp only [e55, e48, Bool.and_eq_true, Bool.or_eq_true, Bool.and_eq_false_iff, Bool.or_eq_false_iff, decide_eq_true_eq, decide_eq_false_iff_not, Bool.not_eq_true', Bool.not_eq_false', Bool.not_true, Bool.not_false, eq_self] at ec55
            have ec := ec55
            refine c_skip ?_
            refine hN17 _ _ ?_
            have h := h.only [0, 2, 8] (l' := [(0, _), (2, _), (8, _)]) rfl
            refine c_lregion ?_
            refine st1 h rfl rfl rfl (v_move rfl) fun a h => ?_
            refine st1 h rfl rfl rfl (v_add rfl rfl (wi (by omega))) fun a h => ?_
            refine st1 h rfl rfl rfl (v_assign rfl) fun a h => ?_
            refine c_lnil ?_
            refine hN14 _ _ _ ?_ ⟨i + 1, rfl, ?_, (h.only [0, 2, 8] (l' := [(0, _), (2, _), (8, _)]) rfl), H⟩
            · omega
            · refine ⟨by omega, ?_⟩
              have e1 : (i + 1 - 1).toNat = (i - 1).toNat + 1 := by omega
              rw [e1]
              refine find_step _ _ _ (errName i) hpre ?_ ec
              rw [errName, if_pos (by omega)]
              exact getD_some _ _ [] (by show (i - 1).toNat < 7; omega)
        · simp only [e48, Bool.and_eq_true, Bool.or_eq_true, Bool.and_eq_false_iff, Bool.or_eq_false_iff, decide_eq_true_eq, decide_eq_false_iff_not, Bool.not_eq_true', Bool.not_eq_false', Bool.not_true, Bool.not_false, eq_self] at ec48
          have ec := ec48
          refine c_exit ?_
          refine hx1_15 _ _ ?_
          refine hN11 _ _ ?_
          have h := h.only [2] (l' := [(2, _)]) rfl
          refine c_region fun K hK => ?_
          refine st1 h rfl rfl rfl (v_build bld28 [] [_, _, _] rfl rfl) fun a h => ?_
          refine st_store h H 0 rfl rfl rfl Tryd.sizeOf28 [_, _, _] rfl rfl rfl (by simp) [_, _, _] rfl (hl' := [_]) rfl fun w H hz hs => ?_
          refine st1 h rfl rfl rfl (v_assign rfl) fun a h => ?_
          refine c_nil hK ?_
          refine c_ret (hret3 _ _ (out2 h rfl ⟨_, rfl, run_loadVar_agg (vs := [_, _, _]) Tryd.isAgg28 Tryd.sizeOf28 (H.get 0 rfl) rfl rfl⟩ rfl ?_))
          refine ⟨?_, H.out⟩
          simp only [one]
          rw [if_neg (by omega), if_neg (by omega), if_pos ec44, find_all _ enames (i - 1).toNat hpre (by show 7 ≤ (i - 1).toNat; omega)]
      · simp only [e46, e35, e25, e24, e21, e20, e17, Bool.and_eq_true, Bool.or_eq_true, Bool.and_eq_false_iff, Bool.or_eq_false_iff, decide_eq_true_eq, decide_eq_false_iff_not, Bool.not_eq_true', Bool.not_eq_false', Bool.not_true, Bool.not_false, eq_self] at ec44
        have ec := ec44
        refine c_region fun K hK => ?_
        refine st1 h rfl rfl rfl (v_move rfl) fun a h => ?_
        refine st2b (T := Ext) h rfl rfl rfl (d_call [_] rfl Tryd.call11 (isWord_ok _ _)) fun b63 e63 w X a h => ?_
        have H := H.ext X
        refine st1 h rfl rfl rfl (v_move rfl) fun a h => ?_
        refine st_g h rfl rfl (gT rfl) rfl rfl (fun e0 => v_move rfl) fun a h => ?_
        refine st_gb h rfl rfl (gT rfl) rfl rfl (fun e0 => v_ne (eg e0 rfl) rfl) fun b66 e66 a h => ?_
        refine st1b h rfl rfl rfl (v_and rfl rfl) fun b67 e67 a h => ?_
        refine st1 h rfl rfl rfl (v_assign rfl) fun a h => ?_
        refine c_nil hK ?_
        have h := h.only [0, 2, 61] (l' := [(0, _), (2, _), (61, _)]) rfl
        refine c_cond h rfl (fun ec61 => ?_) (fun ec61 => ?_)
        · simp only [e67, e66, e63, e46, e35, e25, e24, e21, e20, e17, Bool.and_eq_true, Bool.or_eq_true, Bool.and_eq_false_iff, Bool.or_eq_false_iff, decide_eq_true_eq, decide_eq_false_iff_not, Bool.not_eq_true', Bool.not_eq_false', Bool.not_true, Bool.not_false, eq_self] at ec61
          have ec := ec61
          refine c_region fun K hK => ?_
          refine st1 h rfl rfl rfl (v_move rfl) fun a h => ?_
          refine st2v (T := Ext) h rfl rfl rfl (d_call [_, _] rfl Tryd.call15 (run_ok l isWord _ _ Tryd.call11 (by omega) (fun c w => isWord_ok c w))) fun w X a h => ?_
          have H := H.ext X
          have hrb := runL_bd isWord l
          refine st1 h rfl rfl rfl (v_assign rfl) fun a h => ?_
          refine c_nil hK ?_
          refine c_region fun K hK => ?_
          refine st1 h rfl rfl rfl (v_move rfl) fun a h => ?_
          refine st1 h rfl rfl rfl (v_move rfl) fun a h => ?_
          refine st1 h rfl rfl rfl (v_scutHi Tryd.underlying9 rfl rfl (by omega)) fun a h => ?_
          refine st1 h rfl rfl rfl (v_build bld28 [_, _] [_, _, _] rfl rfl) fun a h => ?_
          refine st1 h rfl rfl rfl (v_move rfl) fun a h => ?_
          refine st_store h H 0 rfl rfl rfl Tryd.sizeOf28 [_, _, _] rfl rfl rfl (by simp) [_, _, _] rfl (hl' := [_]) rfl fun w H hz hs => ?_
          refine st1 h rfl rfl rfl (v_assign rfl) fun a h => ?_
          refine c_nil hK ?_
          have h := h.only [2, 3] (l' := [(2, _), (3, _)]) rfl
          refine c_ret (hret3 _ _ (out2 h rfl ⟨_, rfl, run_loadVar_agg (vs := [_, _, _]) Tryd.isAgg28 Tryd.sizeOf28 (H.get 0 rfl) rfl rfl⟩ rfl ?_))
          refine ⟨?_, H.out⟩
          simp only [one]
          rw [if_neg (by omega), if_neg (by omega), if_neg (by omega), if_pos ec61]
        · simp only [e67, e66, e63, e46, e35, e25, e24, e21, e20, e17, Bool.and_eq_true, Bool.or_eq_true, Bool.and_eq_false_iff, Bool.or_eq_false_iff, decide_eq_true_eq, decide_eq_false_iff_not, Bool.not_eq_true', Bool.not_eq_false', Bool.not_true, Bool.not_false, eq_self] at ec61
          have ec := ec61
          refine c_skip ?_
          refine hN3 _ _ ?_
          refine c_seq _ (fun a w c => c) fun Q25 hN25 hO25 => ?_
          have hret25 := hO25.ret hret0
          refine c_region fun K hK => ?_
          refine st2 h rfl rfl rfl (d_call [_] rfl Tryd.call14 (fields_ok signsC _ (by decide) (by decide) (GF.ext hG H.out))) ?_
          rintro v75 w ⟨hr75, X⟩ a h
          have H := H.ext X
          rw [fields_signs] at hr75
          have hsn : signs.length = 16 := rfl
          refine st1 h rfl rfl rfl (v_len Tryd.underlying36 rfl hr75) fun a h => ?_
          refine st1 h rfl rfl rfl (v_move rfl) fun a h => ?_
          refine c_nil hK ?_
          refine c_lblock fun Q27 hN27 hx3_27 hO27 => ?_
          have hret27 := hO27.ret hret25
          refine c_loopN (fun mu_ a w => ∃ i : Int, mu_ = (16 - i).toNat ∧ ((0 ≤ i ∧ i ≤ 16) ∧ ((signs.take i.toNat).find? (fun x => Lib.hasPrefix l x) = none) ∧ (Reads w v75 1 (fun x => [S x]) signs)) ∧ Fr 90 [(0, S l), (2, .pointer (some ⟨p2, 0, none⟩)), (75, v75), (76, .int .i64 signs.length), (77, .int .i64 i)] a ∧ Hp w0 [.blk p2 (Cel [.int .i64 0, S [], .int .i64 0] 28)] w) _ ⟨0, rfl, ⟨by omega, rfl, hr75⟩, (h.only [0, 2, 75, 76, 77] (l' := [(0, _), (2, _), (75, _), (76, _), (77, _)]) rfl), H⟩ ?_
          rintro _ a w ⟨i, rfl, ⟨hi, hpre, hr75⟩, h, H⟩ Q28 hN28 hO28
          have hret28 := hO28.ret hret27
          have hx3_28 := hO28.exit (i := 3) rfl hx3_27
          refine c_region fun K hK => ?_
          refine st1b h rfl rfl rfl (v_lt rfl rfl) fun b78 e78 a h => ?_
          refine c_nil hK ?_
          refine c_seq _ (fun a w c => c) fun Q30 hN30 hO30 => ?_
          have hret30 := hO30.ret hret28
          have hx3_30 := hO30.exit (i := 3) rfl hx3_28
          refine c_cond h rfl (fun ec78 => ?_) (fun ec78 => ?_)
          · simp only [e78, Bool.and_eq_true, Bool.or_eq_true, Bool.and_eq_false_iff, Bool.or_eq_false_iff, decide_eq_true_eq, decide_eq_false_iff_not, Bool.not_eq_true', Bool.not_eq_false', Bool.not_true, Bool.not_false, eq_self] at ec78
            have ec := ec78
            refine c_skip ?_
            refine hN30 _ _ ?_
            refine c_block _ (fun a w c => c) fun Q31 hN31 hx4_31 hO31 => ?_
            have hret31 := hO31.ret hret28
            have hx3_31 := hO31.exit (i := 3) rfl hx3_28
            refine c_region fun K hK => ?_
            refine st_idx h Tryd.underlying36 Tryd.sizeOf9 rfl rfl hr75 (fun _ => rfl) _ (by omega) (getD_some _ _ [] (by omega)) rfl fun a v79 A79 h => ?_
            refine st1 h rfl rfl rfl (v_loadAt1 rfl A79 Tryd.isAgg9 rfl) fun a h => ?_
            refine st1 h rfl rfl rfl (v_assign rfl) fun a h => ?_
            refine c_nil hK ?_
            refine c_region fun K hK => ?_
            refine st1 h rfl rfl rfl (v_move rfl) fun a h => ?_
            refine st1 h rfl rfl rfl (v_move rfl) fun a h => ?_
            refine st2b (T := Ext) h rfl rfl rfl (d_call [_, _] rfl Tryd.call18 (hasPrefix_ok _ _ _)) fun b83 e83 w X a h => ?_
            have H := H.ext X
            have hr75 := Reads.ext hr75 X
            have A79 := At.ext A79 X
            refine c_nil hK ?_
            have h := h.only [0, 2, 12, 75, 76, 77, 83] (l' := [(0, _), (2, _), (12, _), (75, _), (76, _), (77, _), (83, _)]) rfl
            clear A79
            refine c_cond h rfl (fun ec83 => ?_) (fun ec83 => ?_)
            · simp only [e83, e78, Bool.and_eq_true, Bool.or_eq_true, Bool.and_eq_false_iff, Bool.or_eq_false_iff, decide_eq_true_eq, decide_eq_false_iff_not, Bool.not_eq_true', Bool.not_eq_false', Bool.not_true, Bool.not_false, eq_self] at ec83
              have ec := ec83
              refine c_region fun K hK => ?_
              refine st1 h rfl rfl rfl (v_move rfl) fun a h => ?_
              refine st1 h rfl rfl rfl (v_build bld28 [_, _] [_, _, _] rfl rfl) fun a h => ?_
              refine st1 h rfl rfl rfl (v_move rfl) fun a h => ?_
              refine st1 h rfl rfl rfl (v_slen Tryd.underlying9 rfl) fun a h => ?_
              refine st_store h H 0 rfl rfl rfl Tryd.sizeOf28 [_, _, _] rfl rfl rfl (by simp) [_, _, _] rfl (hl' := [_]) rfl fun w H hz hs => ?_
              clear hr75
              refine st1 h rfl rfl rfl (v_assign rfl) fun a h => ?_
              refine c_nil hK ?_
              have h := h.only [2, 3] (l' := [(2, _), (3, _)]) rfl
              refine c_ret (hret31 _ _ (out2 h rfl ⟨_, rfl, run_loadVar_agg (vs := [_, _, _]) Tryd.isAgg28 Tryd.sizeOf28 (H.get 0 rfl) rfl rfl⟩ rfl ?_))
              refine ⟨?_, H.out⟩
              simp only [one]
              rw [if_neg (by omega), if_neg (by omega), if_neg (by omega), if_neg (by rintro ⟨h1, h2⟩; rcases ec61 with h3 | h3 <;> simp_all), find_hit _ signs i.toNat _ hpre (getD_some _ _ [] (by show i.toNat < 16; omega)) ec83]
            · simp only [e83, e78, Bool.and_eq_true, Bool.or_eq_true, Bool.and_eq_false_iff, Bool.or_eq_false_iff, decide_eq_true_eq, decide_eq_false_iff_not, Bool.not_eq_true', Bool.not_eq_false', Bool.not_true, Bool.not_false, eq_self] at ec83
              have ec := ec83
              refine c_skip ?_
              refine hN31 _ _ ?_
              refine c_lregion ?_
              refine st1 h rfl rfl rfl (v_add rfl rfl (wi (by omega))) fun a h => ?_
              refine st1 h rfl rfl rfl (v_move rfl) fun a h => ?_
              refine c_lnil ?_
              refine hN28 _ _ _ ?_ ⟨i + 1, rfl, ?_, (h.only [0, 2, 75, 76, 77] (l' := [(0, _), (2, _), (75, _), (76, _), (77, _)]) rfl), H⟩
              · omega
              · refine ⟨by omega, ?_, hr75⟩
                have e1 : (i + 1).toNat = i.toNat + 1 := by omega
                rw [e1]
                exact find_step _ _ _ _ hpre (getD_some _ _ [] (by show i.toNat < 16; omega)) ec
          · simp only [e78, Bool.and_eq_true, Bool.or_eq_true, Bool.and_eq_false_iff, Bool.or_eq_false_iff, decide_eq_true_eq, decide_eq_false_iff_not, Bool.not_eq_true', Bool.not_eq_false', Bool.not_true, Bool.not_false, eq_self] at ec78
            have ec := ec78
            refine c_exit ?_
            refine hx3_30 _ _ ?_
            refine hN25 _ _ ?_
            have h := h.only [2] (l' := [(2, _)]) rfl
            clear hr75
            refine c_region fun K hK => ?_
            refine st1 h rfl rfl rfl (v_build bld28 [] [_, _, _] rfl rfl) fun a h => ?_
            refine st_store h H 0 rfl rfl rfl Tryd.sizeOf28 [_, _, _] rfl rfl rfl (by simp) [_, _, _] rfl (hl' := [_]) rfl fun w H hz hs => ?_
            refine st1 h rfl rfl rfl (v_assign rfl) fun a h => ?_
            refine c_nil hK ?_
            refine c_ret (hret0 _ _ (out2 h rfl ⟨_, rfl, run_loadVar_agg (vs := [_, _, _]) Tryd.isAgg28 Tryd.sizeOf28 (H.get 0 rfl) rfl rfl⟩ rfl ?_))
            refine ⟨?_, H.out⟩
            simp only [one]
            rw [if_neg (by omega), if_neg (by omega), if_neg (by omega), if_neg (by rintro ⟨h1, h2⟩; rcases ec61 with h3 | h3 <;> simp_all), find_all _ signs i.toNat hpre (by show 16 ≤ i.toNat; omega)]

end Go.Proofs.YtdepoohfljaogaaDoor
