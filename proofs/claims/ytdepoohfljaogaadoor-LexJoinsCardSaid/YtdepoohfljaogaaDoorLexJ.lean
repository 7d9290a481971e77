/- Walks of the functions of package lex, the law LexJoins. -/
import Derived.Test.YtdepoohfljaogaaDoorF
import Derived.Test.YtdepoohfljaogaaDoorLexPlain
import Derived.Test.YtdepoohfljaogaaDoorLexE
import Derived.Test.YtdepoohfljaogaaDoorLexLawC
import Derived.Test.YtdepoohfljaogaaDoorShelf
set_option linter.unusedSimpArgs false
set_option linter.unusedVariables false
set_option linter.unusedSectionVars false
namespace Go.Proofs.YtdepoohfljaogaaDoor
open Go.Stp Go.RowKit Go.LexP
theorem lexJoins_ok (s : List UInt8) (w0 : World) (hG : GF w0) : Calls Tryd.prog 4 [S s].toArray w0 (Ret fun v w => v = .bool true ∧ Ext w0 w) := by
  refine enter Tryd.func4 rfl rfl rfl fun Q a h hret0 hnor => ?_
  have H := Hp.start w0
  have h := h.only [0] (l' := [(0, _)]) rfl
  refine c_region fun K hK => ?_
  refine st1 h rfl rfl rfl (v_assign rfl) fun a h => ?_
  refine c_nil hK ?_
  refine c_seq _ (fun a w c => c) fun Q2 hN2 hO2 => ?_
  have hret2 := hO2.ret hret0
  refine c_region fun K hK => ?_
  refine st2b (T := Ext) h rfl rfl rfl (d_call [] rfl Tryd.call8 (fit_ok _ (GF.ext hG H.out))) fun b13 e13 w X a h => ?_
  have H := H.ext X
  refine st1b h rfl rfl rfl (v_not rfl) fun b14 e14 a h => ?_
  refine c_nil hK ?_
  refine c_cond h rfl (fun ec14 => ?_) (fun ec14 => ?_)
  · have ec := ec14
    exact absurd ec (by simp [e14, e13])
  · have ec := ec14
    skip
    refine c_skip ?_
    refine hN2 _ _ ?_
    refine c_seq _ (fun a w c => c) fun Q4 hN4 hO4 => ?_
    have hret4 := hO4.ret hret0
    refine c_region fun K hK => ?_
    refine st1 h rfl rfl rfl (v_move rfl) fun a h => ?_
    refine st1 h rfl rfl rfl (v_slen Tryd.underlying9 rfl) fun a h => ?_
    refine st1b h rfl rfl rfl (v_gt rfl rfl) fun b17 e17 a h => ?_
    refine c_nil hK ?_
    have h := h.only [0, 17] (l' := [(0, _), (17, _)]) rfl
    refine c_cond h rfl (fun ec17 => ?_) (fun ec17 => ?_)
    · simp only [e17, e14, e13, Bool.and_eq_true, Bool.or_eq_true, Bool.and_eq_false_iff, Bool.or_eq_false_iff, decide_eq_true_eq, decide_eq_false_iff_not, Bool.not_eq_true', Bool.not_eq_false', Bool.not_true, Bool.not_false, eq_self] at ec17
      have ec := ec17
      refine c_region fun K hK => ?_
      refine st1 h rfl rfl rfl (v_assign rfl) fun a h => ?_
      refine c_nil hK ?_
      refine c_ret (hret4 _ _ (out1 h rfl rfl ?_))
      refine ⟨?_, H.out⟩
      rfl
    · simp only [e17, e14, e13, Bool.and_eq_true, Bool.or_eq_true, Bool.and_eq_false_iff, Bool.or_eq_false_iff, decide_eq_true_eq, decide_eq_false_iff_not, Bool.not_eq_true', Bool.not_eq_false', Bool.not_true, Bool.not_false, eq_self] at ec17
      have ec := ec17
      refine c_skip ?_
      refine hN4 _ _ ?_
      refine c_region fun K hK => ?_
      refine st1 h rfl rfl rfl (v_move rfl) fun a h => ?_
      refine st2 h rfl rfl rfl (d_call [_] rfl Tryd.call9 (all_ok s _ (GF.ext hG H.out))) ?_
      rintro v20 w ⟨hao, X⟩ a h
      have H := H.ext X
      obtain ⟨sv20, p20, z20, ts20, rfl, hr20, ha20⟩ := hao.gen
      refine st1 h rfl rfl rfl (v_move rfl) fun a h => ?_
      refine st1 h rfl rfl rfl (v_extract rfl rfl) fun a h => ?_
      refine st1 h rfl rfl rfl (v_extract rfl rfl) fun a h => ?_
      refine st1 h rfl rfl rfl (v_extract rfl rfl) fun a h => ?_
      refine st1 h rfl rfl rfl (v_assign rfl) fun a h => ?_
      refine st1 h rfl rfl rfl (v_assign rfl) fun a h => ?_
      refine st1 h rfl rfl rfl (v_assign rfl) fun a h => ?_
      refine c_nil hK ?_
      have h := h.only [3, 5] (l' := [(3, _), (5, _)]) rfl
      refine c_seq _ (fun a w c => c) fun Q8 hN8 hO8 => ?_
      have hret8 := hO8.ret hret0
      refine c_region fun K hK => ?_
      refine st1 h rfl rfl rfl (v_move rfl) fun a h => ?_
      refine st1b h rfl rfl rfl (v_ne rfl rfl) fun b25 e25 a h => ?_
      refine c_nil hK ?_
      refine c_cond h rfl (fun ec25 => ?_) (fun ec25 => ?_)
      · simp only [e25, e17, e14, e13, Bool.and_eq_true, Bool.or_eq_true, Bool.and_eq_false_iff, Bool.or_eq_false_iff, decide_eq_true_eq, decide_eq_false_iff_not, Bool.not_eq_true', Bool.not_eq_false', Bool.not_true, Bool.not_false, eq_self] at ec25
        have ec := ec25
        refine c_region fun K hK => ?_
        refine st1 h rfl rfl rfl (v_assign rfl) fun a h => ?_
        refine c_nil hK ?_
        have h := h.only [2] (l' := [(2, _)]) rfl
        refine c_ret (hret8 _ _ (out1 h rfl rfl ?_))
        refine ⟨?_, H.out⟩
        rfl
      · have ec := ec25
        simp only [e25, Bool.and_eq_true, Bool.or_eq_true, Bool.and_eq_false_iff, Bool.or_eq_false_iff, decide_eq_true_eq, decide_eq_false_iff_not, Bool.not_eq_true', Bool.not_eq_false', Bool.not_true, Bool.not_false, eq_self] at ec
        have ec25b := ec
        have hx : Lexes s 0 ts20 := by
          rcases ha20 with ⟨hl, _⟩ | ⟨_, _, _, hx⟩ | ⟨_, _, hz, _⟩
          · omega
          · exact hx
          · exact absurd hz (by omega)
        have hjl := lexes_join_len hx
        have htl := lexes_len hx
        refine c_skip ?_
        refine hN8 _ _ ?_
        refine c_region fun K hK => ?_
        refine st1 h rfl rfl rfl (v_assign rfl) fun a h => ?_
        refine c_nil hK ?_
        refine c_seq _ (fun a w c => c) fun Q12 hN12 hO12 => ?_
        have hret12 := hO12.ret hret0
        refine c_region fun K hK => ?_
        refine st1 h rfl rfl rfl (v_move rfl) fun a h => ?_
        refine st1 h rfl rfl rfl (v_len Tryd.underlying23 rfl hr20) fun a h => ?_
        refine st1 h rfl rfl rfl (v_move rfl) fun a h => ?_
        refine c_nil hK ?_
        refine c_lblock fun Q14 hN14 hx0_14 hO14 => ?_
        have hret14 := hO14.ret hret12
        refine c_loopN (fun mu_ a w => ∃ (i : Int) (j : List UInt8), mu_ = (ts20.length - i).toNat ∧ ((0 ≤ i ∧ i ≤ ts20.length) ∧ (j = joined (ts20.take i.toNat)) ∧ (Reads w sv20 3 tokE ts20)) ∧ Fr 86 [(3, sv20), (6, S j), (26, sv20), (27, .int .i64 ts20.length), (28, .int .i64 i)] a ∧ Hp w0 [] w) _ ⟨0, [], rfl, ⟨by omega, rfl, hr20⟩, (h.only [3, 6, 26, 27, 28] (l' := [(3, _), (6, _), (26, _), (27, _), (28, _)]) rfl), H⟩ ?_
        rintro _ a w ⟨i, j, rfl, ⟨hi, hj, hr20⟩, h, H⟩ Q15 hN15 hO15
        have hret15 := hO15.ret hret14
        have hx0_15 := hO15.exit (i := 0) rfl hx0_14
        refine c_region fun K hK => ?_
        refine st1b h rfl rfl rfl (v_lt rfl rfl) fun b29 e29 a h => ?_
        refine c_nil hK ?_
        refine c_seq _ (fun a w c => c) fun Q17 hN17 hO17 => ?_
        have hret17 := hO17.ret hret15
        have hx0_17 := hO17.exit (i := 0) rfl hx0_15
        refine c_cond h rfl (fun ec29 => ?_) (fun ec29 => ?_)
        · have ec := ec29
          simp only [e29, decide_eq_true_eq] at ec
          have ec29b := ec
          obtain ⟨t, hti, _⟩ := drop_tok ts20 i (by omega)
          have hjs := join_step ts20 i (by omega) hti
          have hjn := join_le ts20 (i + 1).toNat
          rw [hjs, ← hj] at hjn
          simp only [List.length_append, List.length_cons, List.length_nil] at hjn
          have hqg := quote_ge t.k t.s
          refine c_skip ?_
          refine hN17 _ _ ?_
          refine c_block _ (fun a w c => c) fun Q18 hN18 hx1_18 hO18 => ?_
          have hret18 := hO18.ret hret15
          have hx0_18 := hO18.exit (i := 0) rfl hx0_15
          refine c_region fun K hK => ?_
          refine st_idx h Tryd.underlying23 Tryd.sizeOf28 rfl rfl hr20 (fun _ => rfl) t (by omega) hti rfl fun a v30 A30 h => ?_
          refine st1 h rfl rfl rfl (v_loadAtA [_, _, _] rfl A30 Tryd.isAgg28 Tryd.sizeOf28 rfl rfl) fun a h => ?_
          refine st_alloc h H Tryd.zeroValue28 [_, _, _] rfl rfl fun a p8 w x8 X H h => ?_
          have n8_hr20 := Reads.apart hr20 x8
          have hr20 := Reads.ext hr20 X
          have A30 := At.ext A30 X
          refine st_store h H 0 rfl rfl rfl Tryd.sizeOf28 [_, _, _] rfl rfl rfl (by simp) [_, _, _] rfl (hl' := [_]) rfl fun w H hz hs => ?_
          have hr20 := Reads.keep hr20 (fun b hb => hs b (n8_hr20 b hb))
          clear A30
          refine c_nil hK ?_
          refine c_lregion ?_
          refine st1 h rfl rfl rfl (v_move rfl) fun a h => ?_
          refine st1 h rfl rfl rfl (v_loadA [_, _, _] rfl Tryd.isAgg28 Tryd.sizeOf28 (H.get 0 rfl) rfl rfl) fun a h => ?_
          refine st2v (T := Ext) h rfl rfl rfl (d_call [_] rfl Tryd.call10 (ltext_ok t.k t.pos t.s _ (by omega))) fun w X a h => ?_
          have H := H.ext X
          have hr20 := Reads.ext hr20 X
          refine st1 h rfl rfl rfl (v_sadd rfl rfl (by first | omega | (simp only [cutS_length, List.length_append, List.length_cons, List.length_nil]; omega))) fun a h => ?_
          refine st1 h rfl rfl rfl (v_sadd rfl rfl (by first | omega | (simp only [cutS_length, List.length_append, List.length_cons, List.length_nil]; omega))) fun a h => ?_
          refine st1 h rfl rfl rfl (v_assign rfl) fun a h => ?_
          refine c_lnil ?_
          refine hN18 _ _ ?_
          have h := h.only [3, 6, 26, 27, 28] (l' := [(3, _), (6, _), (26, _), (27, _), (28, _)]) rfl
          refine c_lregion ?_
          refine st1 h rfl rfl rfl (v_add rfl rfl (wi (by omega))) fun a h => ?_
          refine st1 h rfl rfl rfl (v_move rfl) fun a h => ?_
          refine c_lnil ?_
          refine hN15 _ _ _ ?_ ⟨i + 1, _, rfl, ?_, (h.only [3, 6, 26, 27, 28] (l' := [(3, _), (6, _), (26, _), (27, _), (28, _)]) rfl), (H.keepN 0 rfl)⟩
          · omega
          · exact ⟨by omega, by rw [hj, join_step ts20 i (by omega) hti], hr20⟩
        · simp only [e29, Bool.and_eq_true, Bool.or_eq_true, Bool.and_eq_false_iff, Bool.or_eq_false_iff, decide_eq_true_eq, decide_eq_false_iff_not, Bool.not_eq_true', Bool.not_eq_false', Bool.not_true, Bool.not_false, eq_self] at ec29
          have ec := ec29
          refine c_exit ?_
          refine hx0_17 _ _ ?_
          refine hN12 _ _ ?_
          have h := h.only [3, 6] (l' := [(3, _), (6, _)]) rfl
          refine c_seq _ (fun a w c => c) fun Q20 hN20 hO20 => ?_
          have hret20 := hO20.ret hret0
          refine c_region fun K hK => ?_
          refine st1 h rfl rfl rfl (v_move rfl) fun a h => ?_
          refine st1 h rfl rfl rfl (v_slen Tryd.underlying9 rfl) fun a h => ?_
          refine st1b h rfl rfl rfl (v_gt rfl rfl) fun b40 e40 a h => ?_
          refine c_nil hK ?_
          refine c_cond h rfl (fun ec40 => ?_) (fun ec40 => ?_)
          · simp only [e40, e29, Bool.and_eq_true, Bool.or_eq_true, Bool.and_eq_false_iff, Bool.or_eq_false_iff, decide_eq_true_eq, decide_eq_false_iff_not, Bool.not_eq_true', Bool.not_eq_false', Bool.not_true, Bool.not_false, eq_self] at ec40
            have ec := ec40
            refine c_region fun K hK => ?_
            refine st1 h rfl rfl rfl (v_assign rfl) fun a h => ?_
            refine c_nil hK ?_
            have h := h.only [2] (l' := [(2, _)]) rfl
            clear hr20
            refine c_ret (hret20 _ _ (out1 h rfl rfl ?_))
            refine ⟨?_, H.out⟩
            rfl
          · simp only [e40, e29, Bool.and_eq_true, Bool.or_eq_true, Bool.and_eq_false_iff, Bool.or_eq_false_iff, decide_eq_true_eq, decide_eq_false_iff_not, Bool.not_eq_true', Bool.not_eq_false', Bool.not_true, Bool.not_false, eq_self] at ec40
            have ec := ec40
            refine c_skip ?_
            refine hN20 _ _ ?_
            refine c_region fun K hK => ?_
            refine st1 h rfl rfl rfl (v_move rfl) fun a h => ?_
            refine st2 h rfl rfl rfl (d_call [_] rfl Tryd.call9 (all_ok j _ (GF.ext hG H.out))) ?_
            rintro v43 w ⟨hao, X⟩ a h
            have H := H.ext X
            obtain ⟨sv43, p43, z43, ts43, rfl, hr43, ha43⟩ := hao.gen
            have hr20 := Reads.ext hr20 X
            have hjj : j = joined ts20 := by rw [hj, List.take_of_length_le (by omega)]
            rcases ha43 with ⟨hl43, _⟩ | ⟨hl43, hp43, hz43, hx43⟩ | ⟨hl43, _, _, hx43⟩
            · first | omega | (simp at hl43; omega)
            rotate_left
            · exact (lexes_fails (hjj ▸ rejoin hx 0) hx43).elim
            have ht43 := lexes_det hx43 (hjj ▸ rejoin hx 0)
            rw [ht43] at hr43
            refine st1 h rfl rfl rfl (v_move rfl) fun a h => ?_
            refine st1 h rfl rfl rfl (v_extract rfl rfl) fun a h => ?_
            refine st1 h rfl rfl rfl (v_extract rfl rfl) fun a h => ?_
            refine st1 h rfl rfl rfl (v_extract rfl rfl) fun a h => ?_
            refine st1 h rfl rfl rfl (v_assign rfl) fun a h => ?_
            refine st1 h rfl rfl rfl (v_assign rfl) fun a h => ?_
            refine st1 h rfl rfl rfl (v_assign rfl) fun a h => ?_
            refine c_nil hK ?_
            have h := h.only [3, 9, 11] (l' := [(3, _), (9, _), (11, _)]) rfl
            refine c_seq _ (fun a w c => c) fun Q24 hN24 hO24 => ?_
            have hret24 := hO24.ret hret0
            refine c_region fun K hK => ?_
            refine st1 h rfl rfl rfl (v_move rfl) fun a h => ?_
            refine st1b h rfl rfl rfl (v_ne rfl rfl) fun b48 e48 a h => ?_
            refine st1 h rfl rfl rfl (v_move rfl) fun a h => ?_
            refine st_g h rfl rfl (gF rfl) rfl rfl (fun e0 => v_move rfl) fun a h => ?_
            refine st_g h rfl rfl (gF rfl) rfl rfl (fun e0 => v_len Tryd.underlying23 (eg e0 rfl) hr43) fun a h => ?_
            refine st_g h rfl rfl (gF rfl) rfl rfl (fun e0 => v_move rfl) fun a h => ?_
            refine st_g h rfl rfl (gF rfl) rfl rfl (fun e0 => v_len Tryd.underlying23 (eg e0 rfl) hr20) fun a h => ?_
            refine st_gb h rfl rfl (gF rfl) rfl rfl (fun e0 => v_ne (eg e0 rfl) (eg e0 rfl)) fun b54 e54 a h => ?_
            refine st1b h rfl rfl rfl (v_or rfl rfl) fun b55 e55 a h => ?_
            refine c_nil hK ?_
            have h := h.only [3, 9, 55] (l' := [(3, _), (9, _), (55, _)]) rfl
            refine c_cond h rfl (fun ec55 => ?_) (fun ec55 => ?_)
            · simp only [e55, e54, e48, e40, e29, Bool.and_eq_true, Bool.or_eq_true, Bool.and_eq_false_iff, Bool.or_eq_false_iff, decide_eq_true_eq, decide_eq_false_iff_not, Bool.not_eq_true', Bool.not_eq_false', Bool.not_true, Bool.not_false, eq_self] at ec55
              have ec := ec55
              refine c_region fun K hK => ?_
              refine st1 h rfl rfl rfl (v_assign rfl) fun a h => ?_
              refine c_nil hK ?_
              refine c_ret (hret24 _ _ (out1 h rfl rfl ?_))
              exfalso
              rcases ec55 with h1 | h1
              · exact h1 hz43
              · exact h1 (by rw [retok_len])
            · simp only [e55, e54, e48, e40, e29, Bool.and_eq_true, Bool.or_eq_true, Bool.and_eq_false_iff, Bool.or_eq_false_iff, decide_eq_true_eq, decide_eq_false_iff_not, Bool.not_eq_true', Bool.not_eq_false', Bool.not_true, Bool.not_false, eq_self] at ec55
              have ec := ec55
              refine c_skip ?_
              refine hN24 _ _ ?_
              refine c_seq _ (fun a w c => c) fun Q27 hN27 hO27 => ?_
              have hret27 := hO27.ret hret0
              refine c_region fun K hK => ?_
              refine st1 h rfl rfl rfl (v_move rfl) fun a h => ?_
              refine st1 h rfl rfl rfl (v_len Tryd.underlying23 rfl hr20) fun a h => ?_
              refine st1 h rfl rfl rfl (v_move rfl) fun a h => ?_
              refine c_nil hK ?_
              refine c_lblock fun Q29 hN29 hx2_29 hO29 => ?_
              have hret29 := hO29.ret hret27
              refine c_loopN (fun mu_ a w => ∃ (i2 : Int), mu_ = (ts20.length - i2).toNat ∧ ((0 ≤ i2 ∧ i2 ≤ ts20.length) ∧ (Reads w sv20 3 tokE ts20) ∧ (Reads w sv43 3 tokE (retok 0 ts20))) ∧ Fr 86 [(3, sv20), (9, sv43), (57, .int .i64 ts20.length), (58, .int .i64 i2)] a ∧ Hp w0 [] w) _ ⟨0, rfl, ⟨by omega, hr20, hr43⟩, (h.only [3, 9, 57, 58] (l' := [(3, _), (9, _), (57, _), (58, _)]) rfl), H⟩ ?_
              rintro _ a w ⟨i2, rfl, ⟨hi2, hr20, hr43⟩, h, H⟩ Q30 hN30 hO30
              have hret30 := hO30.ret hret29
              have hx2_30 := hO30.exit (i := 2) rfl hx2_29
              refine c_region fun K hK => ?_
              refine st1b h rfl rfl rfl (v_lt rfl rfl) fun b59 e59 a h => ?_
              refine c_nil hK ?_
              refine c_seq _ (fun a w c => c) fun Q32 hN32 hO32 => ?_
              have hret32 := hO32.ret hret30
              have hx2_32 := hO32.exit (i := 2) rfl hx2_30
              refine c_cond h rfl (fun ec59 => ?_) (fun ec59 => ?_)
              · have ec := ec59
                simp only [e59, decide_eq_true_eq] at ec
                have ec59b := ec
                obtain ⟨t, hti, _⟩ := drop_tok ts20 i2 (by omega)
                obtain ⟨pp, hpp⟩ := retok_get ts20 0 i2.toNat t hti
                refine c_skip ?_
                refine hN32 _ _ ?_
                refine c_block _ (fun a w c => c) fun Q33 hN33 hx3_33 hO33 => ?_
                have hret33 := hO33.ret hret30
                have hx2_33 := hO33.exit (i := 2) rfl hx2_30
                refine c_region fun K hK => ?_
                refine st1 h rfl rfl rfl (v_move rfl) fun a h => ?_
                refine st1 h rfl rfl rfl (v_assign rfl) fun a h => ?_
                refine c_nil hK ?_
                refine c_quiet (by kernel_rfl) (by kernel_rfl) ?_
                refine q1 h rfl rfl rfl (fun w X => v_move rfl) fun a h => ?_
                refine q1 h rfl rfl rfl (fun w X => v_move rfl) fun a h => ?_
                refine q_idx h Tryd.underlying23 Tryd.sizeOf28 rfl rfl hr20 (fun _ => rfl) t (by omega) hti rfl fun a v63 A63 h => ?_
                refine q_field h rfl A63 Tryd.underlying28 rfl Tryd.sizeOf3 rfl rfl rfl fun a v64 A64 h => ?_
                refine q1 h rfl rfl rfl (fun w X => have A64 := At.ext A64 X; v_loadAt1 rfl A64 Tryd.isAgg3 rfl) fun a h => ?_
                refine q1 h rfl rfl rfl (fun w X => v_move rfl) fun a h => ?_
                refine q1 h rfl rfl rfl (fun w X => v_move rfl) fun a h => ?_
                refine q_idx h Tryd.underlying23 Tryd.sizeOf28 rfl rfl hr43 (fun _ => rfl) ⟨t.k, t.s, pp⟩ (by have := retok_len ts20 0; omega) hpp rfl fun a v68 A68 h => ?_
                refine q_field h rfl A68 Tryd.underlying28 rfl Tryd.sizeOf3 rfl rfl rfl fun a v69 A69 h => ?_
                refine q1 h rfl rfl rfl (fun w X => have A69 := At.ext A69 X; v_loadAt1 rfl A69 Tryd.isAgg3 rfl) fun a h => ?_
                refine q1b h rfl rfl rfl (fun w X => v_ne rfl rfl) fun b71 e71 a h => ?_
                refine q1 h rfl rfl rfl (fun w X => v_move rfl) fun a h => ?_
                refine q_g h rfl rfl (gF rfl) rfl rfl (fun e0 w X => v_move rfl) fun a h => ?_
                refine q_g h rfl rfl (gF rfl) rfl rfl (fun e0 w X => v_move rfl) fun a h => ?_
                refine q_idxG h rfl (gF rfl) Tryd.underlying23 Tryd.sizeOf28 (fun e0 => (eg e0 rfl)) (fun e0 => (eg e0 rfl)) hr20 (fun _ => rfl) t (fun e0 => (by omega)) (fun e0 => hti) rfl fun a v75 A75 h => ?_
                refine q_fieldG h rfl (gF rfl) (fun e0 => (eg e0 rfl)) (fun e0 => (A75 e0)) Tryd.underlying28 rfl Tryd.sizeOf9 rfl rfl rfl fun a v76 A76 h => ?_
                refine q_g h rfl rfl (gF rfl) rfl rfl (fun e0 w X => have A76 := AtG.ext A76 X; v_loadAt1 (eg e0 rfl) (A76 e0) Tryd.isAgg9 rfl) fun a h => ?_
                refine q_g h rfl rfl (gF rfl) rfl rfl (fun e0 w X => v_move rfl) fun a h => ?_
                refine q_g h rfl rfl (gF rfl) rfl rfl (fun e0 w X => v_move rfl) fun a h => ?_
                refine q_idxG h rfl (gF rfl) Tryd.underlying23 Tryd.sizeOf28 (fun e0 => (eg e0 rfl)) (fun e0 => (eg e0 rfl)) hr43 (fun _ => rfl) ⟨t.k, t.s, pp⟩ (fun e0 => (by have := retok_len ts20 0; omega)) (fun e0 => hpp) rfl fun a v80 A80 h => ?_
                refine q_fieldG h rfl (gF rfl) (fun e0 => (eg e0 rfl)) (fun e0 => (A80 e0)) Tryd.underlying28 rfl Tryd.sizeOf9 rfl rfl rfl fun a v81 A81 h => ?_
                refine q_g h rfl rfl (gF rfl) rfl rfl (fun e0 w X => have A81 := AtG.ext A81 X; v_loadAt1 (eg e0 rfl) (A81 e0) Tryd.isAgg9 rfl) fun a h => ?_
                refine q_gb h rfl rfl (gF rfl) rfl rfl (fun e0 w X => v_sne (eg e0 rfl) (eg e0 rfl)) fun b83 e83 a h => ?_
                refine q1b h rfl rfl rfl (fun w X => v_or rfl rfl) fun b84 e84 a h => ?_
                refine qn ?_
                intro w X
                have H := H.ext X
                have hr20 := Reads.ext hr20 X
                have hr43 := Reads.ext hr43 X
                have A63 := At.ext A63 X
                have A64 := At.ext A64 X
                have A68 := At.ext A68 X
                have A69 := At.ext A69 X
                have A75 := AtG.ext A75 X
                have A76 := AtG.ext A76 X
                have A80 := AtG.ext A80 X
                have A81 := AtG.ext A81 X
                have h := h.only [3, 9, 57, 58, 84] (l' := [(3, _), (9, _), (57, _), (58, _), (84, _)]) rfl
                clear A63
                clear A64
                clear A68
                clear A69
                clear A75
                clear A76
                clear A80
                clear A81
                refine c_cond h rfl (fun ec84 => ?_) (fun ec84 => ?_)
                · simp only [e84, e83, e71, e59, Bool.and_eq_true, Bool.or_eq_true, Bool.and_eq_false_iff, Bool.or_eq_false_iff, decide_eq_true_eq, decide_eq_false_iff_not, Bool.not_eq_true', Bool.not_eq_false', Bool.not_true, Bool.not_false, eq_self] at ec84
                  have ec := ec84
                  refine c_region fun K hK => ?_
                  refine st1 h rfl rfl rfl (v_assign rfl) fun a h => ?_
                  refine c_nil hK ?_
                  have h := h.only [2] (l' := [(2, _)]) rfl
                  clear hr20
                  clear hr43
                  refine c_ret (hret33 _ _ (out1 h rfl rfl ?_))
                  exfalso
                  rcases ec with h1 | h1 <;> exact h1 trivial
                · simp only [e84, e83, e71, e59, Bool.and_eq_true, Bool.or_eq_true, Bool.and_eq_false_iff, Bool.or_eq_false_iff, decide_eq_true_eq, decide_eq_false_iff_not, Bool.not_eq_true', Bool.not_eq_false', Bool.not_true, Bool.not_false, eq_self] at ec84
                  have ec := ec84
                  refine c_skip ?_
                  refine hN33 _ _ ?_
                  refine c_lregion ?_
                  refine st1 h rfl rfl rfl (v_add rfl rfl (wi (by omega))) fun a h => ?_
                  refine st1 h rfl rfl rfl (v_move rfl) fun a h => ?_
                  refine c_lnil ?_
                  refine hN30 _ _ _ ?_ ⟨i2 + 1, rfl, ?_, (h.only [3, 9, 57, 58] (l' := [(3, _), (9, _), (57, _), (58, _)]) rfl), H⟩
                  · omega
                  · exact ⟨by omega, hr20, hr43⟩
              · simp only [e59, Bool.and_eq_true, Bool.or_eq_true, Bool.and_eq_false_iff, Bool.or_eq_false_iff, decide_eq_true_eq, decide_eq_false_iff_not, Bool.not_eq_true', Bool.not_eq_false', Bool.not_true, Bool.not_false, eq_self] at ec59
                have ec := ec59
                refine c_exit ?_
                refine hx2_32 _ _ ?_
                refine hN27 _ _ ?_
                have h := h.only [] (l' := []) rfl
                clear hr20
                clear hr43
                refine c_region fun K hK => ?_
                refine st1 h rfl rfl rfl (v_assign rfl) fun a h => ?_
                refine c_nil hK ?_
                refine c_ret (hret0 _ _ (out1 h rfl rfl ?_))
                refine ⟨?_, H.out⟩
                rfl

end Go.Proofs.YtdepoohfljaogaaDoor
