/- Walks of the functions of package lex, the law LexParts. -/
import Derived.Test.YtdepoohfljaogaaDoorF
import Derived.Test.YtdepoohfljaogaaDoorLexPlain
import Derived.Test.YtdepoohfljaogaaDoorLexE
import Derived.Test.YtdepoohfljaogaaDoorLexLawC
import Derived.Test.YtdepoohfljaogaaDoorShelf
set_option linter.unusedSimpArgs false
set_option linter.unusedVariables false
set_option linter.unusedSectionVars false
namespace Go.Proofs.YtdepoohfljaogaaDoor
open Go.Stp Go.RowKit Go.LexP
theorem lexParts_ok (s : List UInt8) (w0 : World) (hG : GF w0) : Calls Tryd.prog 3 [S s].toArray w0 (Ret fun v w => v = .bool true ∧ Ext w0 w) := by
  refine enter Tryd.func3 rfl rfl rfl fun Q a h hret0 hnor => ?_
  have H := Hp.start w0
  have h := h.only [0] (l' := [(0, _)]) rfl
  refine c_region fun K hK => ?_
  refine st1 h rfl rfl rfl (v_assign rfl) fun a h => ?_
  refine c_nil hK ?_
  refine c_seq _ (fun a w c => c) fun Q2 hN2 hO2 => ?_
  have hret2 := hO2.ret hret0
  refine c_region fun K hK => ?_
  refine st2b (T := Ext) h rfl rfl rfl (d_call [] rfl Tryd.call8 (fit_ok _ (GF.ext hG H.out))) fun b10 e10 w X a h => ?_
  have H := H.ext X
  refine st1b h rfl rfl rfl (v_not rfl) fun b11 e11 a h => ?_
  refine c_nil hK ?_
  refine c_cond h rfl (fun ec11 => ?_) (fun ec11 => ?_)
  · have ec := ec11
    exact absurd ec (by simp [e11, e10])
  · have ec := ec11
    skip
    refine c_skip ?_
    refine hN2 _ _ ?_
    refine c_region fun K hK => ?_
    refine st1 h rfl rfl rfl (v_move rfl) fun a h => ?_
    refine st2 h rfl rfl rfl (d_call [_] rfl Tryd.call9 (all_ok s _ (GF.ext hG H.out))) ?_
    rintro v14 w ⟨hao, X⟩ a h
    have H := H.ext X
    obtain ⟨sv14, p14, z14, ts14, rfl, hr14, ha14⟩ := hao.gen
    refine st1 h rfl rfl rfl (v_move rfl) fun a h => ?_
    refine st1 h rfl rfl rfl (v_extract rfl rfl) fun a h => ?_
    refine st1 h rfl rfl rfl (v_extract rfl rfl) fun a h => ?_
    refine st1 h rfl rfl rfl (v_extract rfl rfl) fun a h => ?_
    refine st1 h rfl rfl rfl (v_assign rfl) fun a h => ?_
    refine st1 h rfl rfl rfl (v_assign rfl) fun a h => ?_
    refine st1 h rfl rfl rfl (v_assign rfl) fun a h => ?_
    refine c_nil hK ?_
    have h := h.only [0, 3, 4, 5] (l' := [(0, _), (3, _), (4, _), (5, _)]) rfl
    refine c_seq _ (fun a w c => c) fun Q5 hN5 hO5 => ?_
    have hret5 := hO5.ret hret0
    refine c_region fun K hK => ?_
    refine st1 h rfl rfl rfl (v_move rfl) fun a h => ?_
    refine st1 h rfl rfl rfl (v_slen Tryd.underlying9 rfl) fun a h => ?_
    refine st1b h rfl rfl rfl (v_gt rfl rfl) fun b20 e20 a h => ?_
    refine c_nil hK ?_
    refine c_cond h rfl (fun ec20 => ?_) (fun ec20 => ?_)
    · simp only [e20, e11, e10, Bool.and_eq_true, Bool.or_eq_true, Bool.and_eq_false_iff, Bool.or_eq_false_iff, decide_eq_true_eq, decide_eq_false_iff_not, Bool.not_eq_true', Bool.not_eq_false', Bool.not_true, Bool.not_false, eq_self] at ec20
      have ec := ec20
      refine c_region fun K hK => ?_
      refine st1 h rfl rfl rfl (v_move rfl) fun a h => ?_
      refine st1b h rfl rfl rfl (v_eq rfl rfl) fun b22 e22 a h => ?_
      refine st1 h rfl rfl rfl (v_move rfl) fun a h => ?_
      refine st_g h rfl rfl (gT rfl) rfl rfl (fun e0 => v_move rfl) fun a h => ?_
      refine st_gb h rfl rfl (gT rfl) rfl rfl (fun e0 => v_eq (eg e0 rfl) rfl) fun b25 e25 a h => ?_
      refine st1b h rfl rfl rfl (v_and rfl rfl) fun b26 e26 a h => ?_
      refine st1 h rfl rfl rfl (v_move rfl) fun a h => ?_
      refine st_g h rfl rfl (gT rfl) rfl rfl (fun e0 => v_move rfl) fun a h => ?_
      refine st_g h rfl rfl (gT rfl) rfl rfl (fun e0 => v_len Tryd.underlying23 (eg e0 rfl) hr14) fun a h => ?_
      refine st_gb h rfl rfl (gT rfl) rfl rfl (fun e0 => v_eq (eg e0 rfl) rfl) fun b30 e30 a h => ?_
      refine st1b h rfl rfl rfl (v_and rfl rfl) fun b31 e31 a h => ?_
      refine st1 h rfl rfl rfl (v_assign rfl) fun a h => ?_
      refine c_nil hK ?_
      have h := h.only [2] (l' := [(2, _)]) rfl
      refine c_ret (hret5 _ _ (out1 h rfl rfl ?_))
      refine ⟨?_, H.out⟩
      rcases ha14 with ⟨_, ht, hp, hz⟩ | ⟨hl, _⟩ | ⟨hl, _⟩
      · subst_vars; rfl
      · omega
      · omega
    · simp only [e20, e11, e10, Bool.and_eq_true, Bool.or_eq_true, Bool.and_eq_false_iff, Bool.or_eq_false_iff, decide_eq_true_eq, decide_eq_false_iff_not, Bool.not_eq_true', Bool.not_eq_false', Bool.not_true, Bool.not_false, eq_self] at ec20
      have ec := ec20
      refine c_skip ?_
      refine hN5 _ _ ?_
      refine c_seq _ (fun a w c => c) fun Q8 hN8 hO8 => ?_
      have hret8 := hO8.ret hret0
      refine c_region fun K hK => ?_
      refine st1 h rfl rfl rfl (v_move rfl) fun a h => ?_
      refine st1b h rfl rfl rfl (v_ne rfl rfl) fun b33 e33 a h => ?_
      refine c_nil hK ?_
      have h := h.only [0, 3, 4, 5, 33] (l' := [(0, _), (3, _), (4, _), (5, _), (33, _)]) rfl
      refine c_cond h rfl (fun ec33 => ?_) (fun ec33 => ?_)
      · simp only [e33, e20, e11, e10, Bool.and_eq_true, Bool.or_eq_true, Bool.and_eq_false_iff, Bool.or_eq_false_iff, decide_eq_true_eq, decide_eq_false_iff_not, Bool.not_eq_true', Bool.not_eq_false', Bool.not_true, Bool.not_false, eq_self] at ec33
        have ec := ec33
        refine c_region fun K hK => ?_
        refine st1 h rfl rfl rfl (v_move rfl) fun a h => ?_
        refine st1b h rfl rfl rfl (v_eq rfl rfl) fun b35 e35 a h => ?_
        refine st1 h rfl rfl rfl (v_move rfl) fun a h => ?_
        refine st_g h rfl rfl (gT rfl) rfl rfl (fun e0 => v_move rfl) fun a h => ?_
        refine st_gb h rfl rfl (gT rfl) rfl rfl (fun e0 => v_ge (eg e0 rfl) rfl) fun b38 e38 a h => ?_
        refine st1b h rfl rfl rfl (v_and rfl rfl) fun b39 e39 a h => ?_
        refine st1 h rfl rfl rfl (v_move rfl) fun a h => ?_
        refine st_g h rfl rfl (gT rfl) rfl rfl (fun e0 => v_move rfl) fun a h => ?_
        refine st_g h rfl rfl (gT rfl) rfl rfl (fun e0 => v_move rfl) fun a h => ?_
        refine st_g h rfl rfl (gT rfl) rfl rfl (fun e0 => v_slen Tryd.underlying9 (eg e0 rfl)) fun a h => ?_
        refine st_gb h rfl rfl (gT rfl) rfl rfl (fun e0 => v_lt (eg e0 rfl) (eg e0 rfl)) fun b44 e44 a h => ?_
        refine st1b h rfl rfl rfl (v_and rfl rfl) fun b45 e45 a h => ?_
        refine st1 h rfl rfl rfl (v_move rfl) fun a h => ?_
        refine st_g h rfl rfl (gT rfl) rfl rfl (fun e0 => v_move rfl) fun a h => ?_
        refine st_g h rfl rfl (gT rfl) rfl rfl (fun e0 => v_len Tryd.underlying23 (eg e0 rfl) hr14) fun a h => ?_
        refine st_gb h rfl rfl (gT rfl) rfl rfl (fun e0 => v_eq (eg e0 rfl) rfl) fun b49 e49 a h => ?_
        refine st1b h rfl rfl rfl (v_and rfl rfl) fun b50 e50 a h => ?_
        refine st1 h rfl rfl rfl (v_assign rfl) fun a h => ?_
        refine c_nil hK ?_
        have h := h.only [2] (l' := [(2, _)]) rfl
        refine c_ret (hret8 _ _ (out1 h rfl rfl ?_))
        refine ⟨?_, H.out⟩
        rcases ha14 with ⟨hl, _⟩ | ⟨_, _, hz, _⟩ | ⟨_, ht, hz, hx⟩
        · omega
        · exact absurd hz ec33
        · have hb := fails_bd hx
          have h1 : 0 ≤ p14 := by omega
          have h2 : p14 < (s.length : Int) := by omega
          subst_vars
          simp [h1, h2]
      · have ec := ec33
        simp only [e33, Bool.and_eq_true, Bool.or_eq_true, Bool.and_eq_false_iff, Bool.or_eq_false_iff, decide_eq_true_eq, decide_eq_false_iff_not, Bool.not_eq_true', Bool.not_eq_false', Bool.not_true, Bool.not_false, eq_self] at ec
        have hx : Lexes (s.drop (0 : Int).toNat) 0 (ts14.drop (0 : Int).toNat) := by
          rcases ha14 with ⟨hl, _⟩ | ⟨_, _, _, hx⟩ | ⟨_, _, hz, _⟩
          · omega
          · exact hx
          · exact absurd hz (by omega)
        have htl := lexes_len hx
        simp at htl
        refine c_skip ?_
        refine hN8 _ _ ?_
        refine c_region fun K hK => ?_
        refine st1 h rfl rfl rfl (v_assign rfl) fun a h => ?_
        refine c_nil hK ?_
        refine c_seq _ (fun a w c => c) fun Q12 hN12 hO12 => ?_
        have hret12 := hO12.ret hret0
        refine c_region fun K hK => ?_
        refine st1 h rfl rfl rfl (v_move rfl) fun a h => ?_
        refine st1 h rfl rfl rfl (v_len Tryd.underlying23 rfl hr14) fun a h => ?_
        refine st1 h rfl rfl rfl (v_move rfl) fun a h => ?_
        refine c_nil hK ?_
        have h := h.only [0, 6, 51, 52, 53] (l' := [(0, _), (6, _), (51, _), (52, _), (53, _)]) rfl
        refine c_lblock fun Q14 hN14 hx0_14 hO14 => ?_
        have hret14 := hO14.ret hret12
        refine c_loopN (fun mu_ a w => ∃ (i k : Int), mu_ = (ts14.length - i).toNat ∧ ((0 ≤ i ∧ i ≤ ts14.length ∧ 0 ≤ k ∧ k ≤ s.length) ∧ (Lexes (s.drop k.toNat) k (ts14.drop i.toNat)) ∧ (Reads w sv14 3 tokE ts14)) ∧ Fr 118 [(0, S s), (6, .int .i64 k), (51, sv14), (52, .int .i64 ts14.length), (53, .int .i64 i)] a ∧ Hp w0 [] w) _ ⟨0, 0, rfl, ⟨by omega, hx, hr14⟩, (h.only [0, 6, 51, 52, 53] (l' := [(0, _), (6, _), (51, _), (52, _), (53, _)]) rfl), H⟩ ?_
        rintro _ a w ⟨i, k, rfl, ⟨hi, hx1, hr14⟩, h, H⟩ Q15 hN15 hO15
        have hret15 := hO15.ret hret14
        have hx0_15 := hO15.exit (i := 0) rfl hx0_14
        refine c_region fun K hK => ?_
        refine st1b h rfl rfl rfl (v_lt rfl rfl) fun b54 e54 a h => ?_
        refine c_nil hK ?_
        refine c_seq _ (fun a w c => c) fun Q17 hN17 hO17 => ?_
        have hret17 := hO17.ret hret15
        have hx0_17 := hO17.exit (i := 0) rfl hx0_15
        refine c_cond h rfl (fun ec54 => ?_) (fun ec54 => ?_)
        · have ec := ec54
          simp only [e54, decide_eq_true_eq] at ec
          have ec54b := ec
          obtain ⟨t, hti, hdr⟩ := drop_tok ts14 i (by omega)
          refine c_skip ?_
          refine hN17 _ _ ?_
          refine c_block _ (fun a w c => c) fun Q18 hN18 hx1_18 hO18 => ?_
          have hret18 := hO18.ret hret15
          have hx0_18 := hO18.exit (i := 0) rfl hx0_15
          refine c_region fun K hK => ?_
          refine st_idx h Tryd.underlying23 Tryd.sizeOf28 rfl rfl hr14 (fun _ => rfl) t (by omega) hti rfl fun a v55 A55 h => ?_
          refine st1 h rfl rfl rfl (v_loadAtA [_, _, _] rfl A55 Tryd.isAgg28 Tryd.sizeOf28 rfl rfl) fun a h => ?_
          refine st_alloc h H Tryd.zeroValue28 [_, _, _] rfl rfl fun a p8 w x8 X H h => ?_
          have n8_hr14 := Reads.apart hr14 x8
          have hr14 := Reads.ext hr14 X
          have A55 := At.ext A55 X
          refine st_store h H 0 rfl rfl rfl Tryd.sizeOf28 [_, _, _] rfl rfl rfl (by simp) [_, _, _] rfl (hl' := [_]) rfl fun w H hz hs => ?_
          have hr14 := Reads.keep hr14 (fun b hb => hs b (n8_hr14 b hb))
          clear A55
          refine c_nil hK ?_
          refine c_block _ (fun a w c => c) fun Q20 hN20 hx2_20 hO20 => ?_
          have hret20 := hO20.ret hret18
          have hx0_20 := hO20.exit (i := 0) rfl hx0_18
          have hx1_20 := hO20.exit (i := 1) rfl hx1_18
          refine c_loopN (fun mu_ a w => ∃ (k2 : Int), mu_ = (s.length - k2).toNat ∧ ((0 ≤ k2 ∧ k2 ≤ s.length) ∧ (Lexes (s.drop k2.toNat) k2 (t :: ts14.drop (i + 1).toNat)) ∧ (Reads w sv14 3 tokE ts14)) ∧ Fr 118 [(0, S s), (6, .int .i64 k2), (8, .pointer (some ⟨p8, 0, none⟩)), (51, sv14), (52, .int .i64 ts14.length), (53, .int .i64 i)] a ∧ Hp w0 [.blk p8 (Cel [.int .i64 t.k, S t.s, .int .i64 t.pos] 28)] w) _ ⟨k, rfl, ⟨by omega, by rw [← hdr]; exact hx1, hr14⟩, (h.only [0, 6, 8, 51, 52, 53] (l' := [(0, _), (6, _), (8, _), (51, _), (52, _), (53, _)]) rfl), H⟩ ?_
          rintro _ a w ⟨k2, rfl, ⟨hk2, hx2, hr14⟩, h, H⟩ Q21 hN21 hO21
          have hret21 := hO21.ret hret20
          have hx0_21 := hO21.exit (i := 0) rfl hx0_20
          have hx1_21 := hO21.exit (i := 1) rfl hx1_20
          have hx2_21 := hO21.exit (i := 2) rfl hx2_20
          refine c_seq _ (fun a w c => c) fun Q22 hN22 hO22 => ?_
          have hret22 := hO22.ret hret21
          have hx0_22 := hO22.exit (i := 0) rfl hx0_21
          have hx1_22 := hO22.exit (i := 1) rfl hx1_21
          have hx2_22 := hO22.exit (i := 2) rfl hx2_21
          refine c_region fun K hK => ?_
          refine st1 h rfl rfl rfl (v_move rfl) fun a h => ?_
          refine st1 h rfl rfl rfl (v_fieldAddr rfl Tryd.underlying28 rfl Tryd.sizeOf3 rfl rfl) fun a h => ?_
          refine st1 h rfl rfl rfl (v_load1 rfl Tryd.isAgg3 (H.get 0 rfl) rfl) fun a h => ?_
          refine st1b h rfl rfl rfl (v_lt rfl rfl) fun b60 e60 a h => ?_
          refine st1 h rfl rfl rfl (v_move rfl) fun a h => ?_
          refine st_g h rfl rfl (gT rfl) rfl rfl (fun e0 => v_move rfl) fun a h => ?_
          refine st_g h rfl rfl (gT rfl) rfl rfl (fun e0 => v_move rfl) fun a h => ?_
          refine st_g h rfl rfl (gT rfl) rfl rfl (fun e0 => v_slen Tryd.underlying9 (eg e0 rfl)) fun a h => ?_
          refine st_gb h rfl rfl (gT rfl) rfl rfl (fun e0 => v_lt (eg e0 rfl) (eg e0 rfl)) fun b65 e65 a h => ?_
          refine st1b h rfl rfl rfl (v_and rfl rfl) fun b66 e66 a h => ?_
          refine c_nil hK ?_
          have h := h.only [0, 6, 8, 51, 52, 53, 66] (l' := [(0, _), (6, _), (8, _), (51, _), (52, _), (53, _), (66, _)]) rfl
          refine c_cond h rfl (fun ec66 => ?_) (fun ec66 => ?_)
          · simp only [e66, e65, e60, Bool.and_eq_true, Bool.or_eq_true, Bool.and_eq_false_iff, Bool.or_eq_false_iff, decide_eq_true_eq, decide_eq_false_iff_not, Bool.not_eq_true', Bool.not_eq_false', Bool.not_true, Bool.not_false, eq_self] at ec66
            have ec := ec66
            refine c_skip ?_
            refine hN22 _ _ ?_
            refine c_lblock fun Q24 hN24 hx3_24 hO24 => ?_
            have hret24 := hO24.ret hret21
            have hx0_24 := hO24.exit (i := 0) rfl hx0_21
            have hx1_24 := hO24.exit (i := 1) rfl hx1_21
            have hx2_24 := hO24.exit (i := 2) rfl hx2_21
            refine c_seq _ (fun a w c => c) fun Q25 hN25 hO25 => ?_
            have hret25 := hO25.ret hret24
            have hx0_25 := hO25.exit (i := 0) rfl hx0_24
            have hx1_25 := hO25.exit (i := 1) rfl hx1_24
            have hx2_25 := hO25.exit (i := 2) rfl hx2_24
            have hx3_25 := hO25.exit (i := 3) rfl hx3_24
            refine c_region fun K hK => ?_
            refine st1 h rfl rfl rfl (v_move rfl) fun a h => ?_
            refine st1 h rfl rfl rfl (v_move rfl) fun a h => ?_
            refine st1 h rfl rfl rfl (v_sidx Tryd.underlying9 rfl rfl (by omega)) fun a h => ?_
            refine st1b h rfl rfl rfl (v_ne rfl rfl) fun b70 e70 a h => ?_
            refine c_nil hK ?_
            have h := h.only [0, 6, 8, 51, 52, 53, 70] (l' := [(0, _), (6, _), (8, _), (51, _), (52, _), (53, _), (70, _)]) rfl
            refine c_cond h rfl (fun ec70 => ?_) (fun ec70 => ?_)
            · simp only [e70, e66, e65, e60, Bool.and_eq_true, Bool.or_eq_true, Bool.and_eq_false_iff, Bool.or_eq_false_iff, decide_eq_true_eq, decide_eq_false_iff_not, Bool.not_eq_true', Bool.not_eq_false', Bool.not_true, Bool.not_false, eq_self] at ec70
              have ec := ec70
              refine c_region fun K hK => ?_
              refine st1 h rfl rfl rfl (v_assign rfl) fun a h => ?_
              refine c_nil hK ?_
              have h := h.only [2] (l' := [(2, _)]) rfl
              clear hr14
              refine c_ret (hret25 _ _ (out1 h rfl rfl ?_))
              exact absurd (part_blank hx2 (by omega) ec66.1).1 ec70
            · simp only [e70, e66, e65, e60, Bool.and_eq_true, Bool.or_eq_true, Bool.and_eq_false_iff, Bool.or_eq_false_iff, decide_eq_true_eq, decide_eq_false_iff_not, Bool.not_eq_true', Bool.not_eq_false', Bool.not_true, Bool.not_false, eq_self] at ec70
              have ec := ec70
              refine c_skip ?_
              refine hN25 _ _ ?_
              refine c_lregion ?_
              refine st1 h rfl rfl rfl (v_move rfl) fun a h => ?_
              refine st1 h rfl rfl rfl (v_add rfl rfl (wi (by omega))) fun a h => ?_
              refine st1 h rfl rfl rfl (v_assign rfl) fun a h => ?_
              refine c_lnil ?_
              refine hN24 _ _ ?_
              refine hN21 _ _ _ ?_ ⟨k2 + 1, rfl, ?_, (h.only [0, 6, 8, 51, 52, 53] (l' := [(0, _), (6, _), (8, _), (51, _), (52, _), (53, _)]) rfl), H⟩
              · omega
              · exact ⟨by omega, (part_blank hx2 (by omega) ec66.1).2, hr14⟩
          · have ec := ec66
            simp only [e66, e65, e60, Bool.and_eq_true, Bool.or_eq_true, Bool.and_eq_false_iff, Bool.or_eq_false_iff, decide_eq_true_eq, decide_eq_false_iff_not, Bool.not_eq_true', Bool.not_eq_false', Bool.not_true, Bool.not_false, eq_self] at ec
            have ec66b := ec
            obtain ⟨hk1, hk5, hql, hqc, hqx, hts⟩ := part_tok hx2 (by omega) (by omega)
            refine c_exit ?_
            refine hx2_22 _ _ ?_
            refine c_region fun K hK => ?_
            refine st1 h rfl rfl rfl (v_loadA [_, _, _] rfl Tryd.isAgg28 Tryd.sizeOf28 (H.get 0 rfl) rfl rfl) fun a h => ?_
            refine st2v (T := Ext) h rfl rfl rfl (d_call [_] rfl Tryd.call10 (ltext_ok t.k t.pos t.s _ (by omega))) fun w X a h => ?_
            have H := H.ext X
            have hr14 := Reads.ext hr14 X
            refine st1 h rfl rfl rfl (v_assign rfl) fun a h => ?_
            refine c_nil hK ?_
            refine c_seq _ (fun a w c => c) fun Q29 hN29 hO29 => ?_
            have hret29 := hO29.ret hret18
            have hx0_29 := hO29.exit (i := 0) rfl hx0_18
            have hx1_29 := hO29.exit (i := 1) rfl hx1_18
            refine c_region fun K hK => ?_
            refine st1 h rfl rfl rfl (v_fieldAddr rfl Tryd.underlying28 rfl Tryd.sizeOf3 rfl rfl) fun a h => ?_
            refine st1 h rfl rfl rfl (v_load1 rfl Tryd.isAgg3 (H.get 0 rfl) rfl) fun a h => ?_
            refine st1b h rfl rfl rfl (v_lt rfl rfl) fun b77 e77 a h => ?_
            refine st1 h rfl rfl rfl (v_move rfl) fun a h => ?_
            refine st_g h rfl rfl (gF rfl) rfl rfl (fun e0 => v_fieldAddr rfl Tryd.underlying28 rfl Tryd.sizeOf3 rfl rfl) fun a h => ?_
            refine st_g h rfl rfl (gF rfl) rfl rfl (fun e0 => v_load1 (eg e0 rfl) Tryd.isAgg3 (H.get 0 rfl) rfl) fun a h => ?_
            refine st_gb h rfl rfl (gF rfl) rfl rfl (fun e0 => v_gt (eg e0 rfl) rfl) fun b81 e81 a h => ?_
            refine st1b h rfl rfl rfl (v_or rfl rfl) fun b82 e82 a h => ?_
            refine st1 h rfl rfl rfl (v_move rfl) fun a h => ?_
            refine st_g h rfl rfl (gF rfl) rfl rfl (fun e0 => v_move rfl) fun a h => ?_
            refine st_g h rfl rfl (gF rfl) rfl rfl (fun e0 => v_slen Tryd.underlying9 (eg e0 rfl)) fun a h => ?_
            refine st_g h rfl rfl (gF rfl) rfl rfl (fun e0 => v_move rfl) fun a h => ?_
            refine st_g h rfl rfl (gF rfl) rfl rfl (fun e0 => v_move rfl) fun a h => ?_
            refine st_g h rfl rfl (gF rfl) rfl rfl (fun e0 => v_slen Tryd.underlying9 (eg e0 rfl)) fun a h => ?_
            refine st_g h rfl rfl (gF rfl) rfl rfl (fun e0 => v_add (eg e0 rfl) (eg e0 rfl) (wi (by first | omega | (simp only [e82, e81, e77, e66, e65, e60, Bool.and_eq_true, Bool.or_eq_true, Bool.and_eq_false_iff, Bool.or_eq_false_iff, decide_eq_true_eq, decide_eq_false_iff_not, Bool.not_eq_true', Bool.not_eq_false', Bool.not_true, Bool.not_false, eq_self] at e0; omega)))) fun a h => ?_
            refine st_gb h rfl rfl (gF rfl) rfl rfl (fun e0 => v_lt (eg e0 rfl) (eg e0 rfl)) fun b90 e90 a h => ?_
            refine st1b h rfl rfl rfl (v_or rfl rfl) fun b91 e91 a h => ?_
            refine st1 h rfl rfl rfl (v_move rfl) fun a h => ?_
            refine st_g h rfl rfl (gF rfl) rfl rfl (fun e0 => v_move rfl) fun a h => ?_
            refine st_g h rfl rfl (gF rfl) rfl rfl (fun e0 => v_move rfl) fun a h => ?_
            refine st_g h rfl rfl (gF rfl) rfl rfl (fun e0 => v_move rfl) fun a h => ?_
            refine st_g h rfl rfl (gF rfl) rfl rfl (fun e0 => v_move rfl) fun a h => ?_
            refine st_g h rfl rfl (gF rfl) rfl rfl (fun e0 => v_slen Tryd.underlying9 (eg e0 rfl)) fun a h => ?_
            refine st_g h rfl rfl (gF rfl) rfl rfl (fun e0 => v_add (eg e0 rfl) (eg e0 rfl) (wi (by first | omega | (simp only [e91, e90, e82, e81, e77, e66, e65, e60, Bool.and_eq_true, Bool.or_eq_true, Bool.and_eq_false_iff, Bool.or_eq_false_iff, decide_eq_true_eq, decide_eq_false_iff_not, Bool.not_eq_true', Bool.not_eq_false', Bool.not_true, Bool.not_false, eq_self] at e0; omega)))) fun a h => ?_
            refine st_g h rfl rfl (gF rfl) rfl rfl (fun e0 => v_scut Tryd.underlying9 (eg e0 rfl) (eg e0 rfl) (eg e0 rfl) (by first | omega | (simp only [e91, e90, e82, e81, e77, e66, e65, e60, Bool.and_eq_true, Bool.or_eq_true, Bool.and_eq_false_iff, Bool.or_eq_false_iff, decide_eq_true_eq, decide_eq_false_iff_not, Bool.not_eq_true', Bool.not_eq_false', Bool.not_true, Bool.not_false, eq_self] at e0; omega))) fun a h => ?_
            refine st_g h rfl rfl (gF rfl) rfl rfl (fun e0 => v_move rfl) fun a h => ?_
            refine st_gb h rfl rfl (gF rfl) rfl rfl (fun e0 => v_sne (eg e0 rfl) (eg e0 rfl)) fun b101 e101 a h => ?_
            refine st1b h rfl rfl rfl (v_or rfl rfl) fun b102 e102 a h => ?_
            refine c_nil hK ?_
            have h := h.only [0, 6, 9, 51, 52, 53, 102] (l' := [(0, _), (6, _), (9, _), (51, _), (52, _), (53, _), (102, _)]) rfl
            refine c_cond h rfl (fun ec102 => ?_) (fun ec102 => ?_)
            · simp only [e102, e101, e91, e90, e82, e81, e77, e66, e65, e60, Bool.and_eq_true, Bool.or_eq_true, Bool.and_eq_false_iff, Bool.or_eq_false_iff, decide_eq_true_eq, decide_eq_false_iff_not, Bool.not_eq_true', Bool.not_eq_false', Bool.not_true, Bool.not_false, eq_self] at ec102
              have ec := ec102
              refine c_region fun K hK => ?_
              refine st1 h rfl rfl rfl (v_assign rfl) fun a h => ?_
              refine c_nil hK ?_
              have h := h.only [2] (l' := [(2, _)]) rfl
              clear hr14
              refine c_ret (hret29 _ _ (out1 h rfl rfl ?_))
              exfalso
              rcases ec102 with ((h1 | h1) | h1) | h1
              · omega
              · omega
              · omega
              · exact h1 hqc
            · simp only [e102, e101, e91, e90, e82, e81, e77, e66, e65, e60, Bool.and_eq_true, Bool.or_eq_true, Bool.and_eq_false_iff, Bool.or_eq_false_iff, decide_eq_true_eq, decide_eq_false_iff_not, Bool.not_eq_true', Bool.not_eq_false', Bool.not_true, Bool.not_false, eq_self] at ec102
              have ec := ec102
              refine c_skip ?_
              refine hN29 _ _ ?_
              refine c_lregion ?_
              refine st1 h rfl rfl rfl (v_move rfl) fun a h => ?_
              refine st1 h rfl rfl rfl (v_move rfl) fun a h => ?_
              refine st1 h rfl rfl rfl (v_slen Tryd.underlying9 rfl) fun a h => ?_
              refine st1 h rfl rfl rfl (v_add rfl rfl (wi (by omega))) fun a h => ?_
              refine st1 h rfl rfl rfl (v_assign rfl) fun a h => ?_
              refine c_lnil ?_
              refine hN18 _ _ ?_
              have h := h.only [0, 6, 51, 52, 53] (l' := [(0, _), (6, _), (51, _), (52, _), (53, _)]) rfl
              refine c_lregion ?_
              refine st1 h rfl rfl rfl (v_add rfl rfl (wi (by omega))) fun a h => ?_
              refine st1 h rfl rfl rfl (v_move rfl) fun a h => ?_
              refine c_lnil ?_
              refine hN15 _ _ _ ?_ ⟨i + 1, k2 + (quote t.k t.s).length, rfl, ?_, (h.only [0, 6, 51, 52, 53] (l' := [(0, _), (6, _), (51, _), (52, _), (53, _)]) rfl), (H.keepN 0 rfl)⟩
              · omega
              · exact ⟨by omega, hqx, hr14⟩
        · simp only [e54, Bool.and_eq_true, Bool.or_eq_true, Bool.and_eq_false_iff, Bool.or_eq_false_iff, decide_eq_true_eq, decide_eq_false_iff_not, Bool.not_eq_true', Bool.not_eq_false', Bool.not_true, Bool.not_false, eq_self] at ec54
          have ec := ec54
          refine c_exit ?_
          refine hx0_17 _ _ ?_
          refine hN12 _ _ ?_
          have h := h.only [0, 6] (l' := [(0, _), (6, _)]) rfl
          clear hr14
          refine c_block _ (fun a w c => c) fun Q32 hN32 hx4_32 hO32 => ?_
          have hret32 := hO32.ret hret0
          rw [List.drop_eq_nil_of_le (show ts14.length ≤ i.toNat by omega)] at hx1
          refine c_loopN (fun mu_ a w => ∃ (k3 : Int), mu_ = (s.length - k3).toNat ∧ ((0 ≤ k3 ∧ k3 ≤ s.length) ∧ (Lexes (s.drop k3.toNat) k3 [])) ∧ Fr 118 [(0, S s), (6, .int .i64 k3)] a ∧ Hp w0 [] w) _ ⟨k, rfl, ⟨by omega, hx1⟩, (h.only [0, 6] (l' := [(0, _), (6, _)]) rfl), H⟩ ?_
          rintro _ a w ⟨k3, rfl, ⟨hk3, hx3⟩, h, H⟩ Q33 hN33 hO33
          have hret33 := hO33.ret hret32
          have hx4_33 := hO33.exit (i := 4) rfl hx4_32
          refine c_seq _ (fun a w c => c) fun Q34 hN34 hO34 => ?_
          have hret34 := hO34.ret hret33
          have hx4_34 := hO34.exit (i := 4) rfl hx4_33
          refine c_region fun K hK => ?_
          refine st1 h rfl rfl rfl (v_move rfl) fun a h => ?_
          refine st1 h rfl rfl rfl (v_move rfl) fun a h => ?_
          refine st1 h rfl rfl rfl (v_slen Tryd.underlying9 rfl) fun a h => ?_
          refine st1b h rfl rfl rfl (v_lt rfl rfl) fun b111 e111 a h => ?_
          refine c_nil hK ?_
          refine c_cond h rfl (fun ec111 => ?_) (fun ec111 => ?_)
          · simp only [e111, Bool.and_eq_true, Bool.or_eq_true, Bool.and_eq_false_iff, Bool.or_eq_false_iff, decide_eq_true_eq, decide_eq_false_iff_not, Bool.not_eq_true', Bool.not_eq_false', Bool.not_true, Bool.not_false, eq_self] at ec111
            have ec := ec111
            refine c_skip ?_
            refine hN34 _ _ ?_
            have h := h.only [0, 6] (l' := [(0, _), (6, _)]) rfl
            refine c_block _ (fun a w c => c) fun Q36 hN36 hx5_36 hO36 => ?_
            have hret36 := hO36.ret hret33
            have hx4_36 := hO36.exit (i := 4) rfl hx4_33
            refine c_region fun K hK => ?_
            refine st1 h rfl rfl rfl (v_move rfl) fun a h => ?_
            refine st1 h rfl rfl rfl (v_move rfl) fun a h => ?_
            refine st1 h rfl rfl rfl (v_sidx Tryd.underlying9 rfl rfl (by omega)) fun a h => ?_
            refine st1b h rfl rfl rfl (v_ne rfl rfl) fun b117 e117 a h => ?_
            refine c_nil hK ?_
            refine c_cond h rfl (fun ec117 => ?_) (fun ec117 => ?_)
            · simp only [e117, e111, Bool.and_eq_true, Bool.or_eq_true, Bool.and_eq_false_iff, Bool.or_eq_false_iff, decide_eq_true_eq, decide_eq_false_iff_not, Bool.not_eq_true', Bool.not_eq_false', Bool.not_true, Bool.not_false, eq_self] at ec117
              have ec := ec117
              refine c_region fun K hK => ?_
              refine st1 h rfl rfl rfl (v_assign rfl) fun a h => ?_
              refine c_nil hK ?_
              have h := h.only [2] (l' := [(2, _)]) rfl
              refine c_ret (hret36 _ _ (out1 h rfl rfl ?_))
              exact absurd (part_end hx3 (by omega)).1 ec117
            · simp only [e117, e111, Bool.and_eq_true, Bool.or_eq_true, Bool.and_eq_false_iff, Bool.or_eq_false_iff, decide_eq_true_eq, decide_eq_false_iff_not, Bool.not_eq_true', Bool.not_eq_false', Bool.not_true, Bool.not_false, eq_self] at ec117
              have ec := ec117
              refine c_skip ?_
              refine hN36 _ _ ?_
              have h := h.only [0, 6] (l' := [(0, _), (6, _)]) rfl
              refine c_lregion ?_
              refine st1 h rfl rfl rfl (v_move rfl) fun a h => ?_
              refine st1 h rfl rfl rfl (v_add rfl rfl (wi (by omega))) fun a h => ?_
              refine st1 h rfl rfl rfl (v_assign rfl) fun a h => ?_
              refine c_lnil ?_
              refine hN33 _ _ _ ?_ ⟨k3 + 1, rfl, ?_, (h.only [0, 6] (l' := [(0, _), (6, _)]) rfl), H⟩
              · omega
              · exact ⟨by omega, (part_end hx3 (by omega)).2⟩
          · simp only [e111, Bool.and_eq_true, Bool.or_eq_true, Bool.and_eq_false_iff, Bool.or_eq_false_iff, decide_eq_true_eq, decide_eq_false_iff_not, Bool.not_eq_true', Bool.not_eq_false', Bool.not_true, Bool.not_false, eq_self] at ec111
            have ec := ec111
            refine c_exit ?_
            refine hx4_34 _ _ ?_
            have h := h.only [] (l' := []) rfl
            refine c_region fun K hK => ?_
            refine st1 h rfl rfl rfl (v_assign rfl) fun a h => ?_
            refine c_nil hK ?_
            refine c_ret (hret0 _ _ (out1 h rfl rfl ?_))
            refine ⟨?_, H.out⟩
            rfl

end Go.Proofs.YtdepoohfljaogaaDoor
