/- Walks of the functions of package lex, the law LexNumbers. -/
import Derived.Test.YtdepoohfljaogaaDoorF
import Derived.Test.YtdepoohfljaogaaDoorLexPlain
import Derived.Test.YtdepoohfljaogaaDoorLexE
import Derived.Test.YtdepoohfljaogaaDoorLexLawB
import Derived.Test.YtdepoohfljaogaaDoorShelf
set_option linter.unusedSimpArgs false
set_option linter.unusedVariables false
set_option linter.unusedSectionVars false
namespace Go.Proofs.YtdepoohfljaogaaDoor
open Go.Stp Go.RowKit Go.LexP
theorem lexNumbers_ok (s : List UInt8) (w0 : World) (hG : GF w0) : Calls Tryd.prog 7 [S s].toArray w0 (Ret fun v w => v = .bool true ∧ Ext w0 w) := by
  refine enter Tryd.func7 rfl rfl rfl fun Q a h hret0 hnor => ?_
  have H := Hp.start w0
  have h := h.only [0] (l' := [(0, _)]) rfl
  refine c_region fun K hK => ?_
  refine st1 h rfl rfl rfl (v_assign rfl) fun a h => ?_
  refine c_nil hK ?_
  refine c_seq _ (fun a w c => c) fun Q2 hN2 hO2 => ?_
  have hret2 := hO2.ret hret0
  refine c_region fun K hK => ?_
  refine st2b (T := Ext) h rfl rfl rfl (d_call [] rfl Tryd.call8 (fit_ok _ (GF.ext hG H.out))) fun b8 e8 w X a h => ?_
  have H := H.ext X
  refine st1b h rfl rfl rfl (v_not rfl) fun b9 e9 a h => ?_
  refine c_nil hK ?_
  refine c_cond h rfl (fun ec9 => ?_) (fun ec9 => ?_)
  · have ec := ec9
    exact absurd ec (by simp [e9, e8])
  · have ec := ec9
    skip
    refine c_skip ?_
    refine hN2 _ _ ?_
    refine c_seq _ (fun a w c => c) fun Q4 hN4 hO4 => ?_
    have hret4 := hO4.ret hret0
    refine c_region fun K hK => ?_
    refine st1 h rfl rfl rfl (v_move rfl) fun a h => ?_
    refine st1 h rfl rfl rfl (v_slen Tryd.underlying9 rfl) fun a h => ?_
    refine st1b h rfl rfl rfl (v_gt rfl rfl) fun b12 e12 a h => ?_
    refine c_nil hK ?_
    have h := h.only [0, 12] (l' := [(0, _), (12, _)]) rfl
    refine c_cond h rfl (fun ec12 => ?_) (fun ec12 => ?_)
    · simp only [e12, e9, e8, Bool.and_eq_true, Bool.or_eq_true, Bool.and_eq_false_iff, Bool.or_eq_false_iff, decide_eq_true_eq, decide_eq_false_iff_not, Bool.not_eq_true', Bool.not_eq_false', Bool.not_true, Bool.not_false, eq_self] at ec12
      have ec := ec12
      refine c_region fun K hK => ?_
      refine st1 h rfl rfl rfl (v_assign rfl) fun a h => ?_
      refine c_nil hK ?_
      refine c_ret (hret4 _ _ (out1 h rfl rfl ?_))
      refine ⟨?_, H.out⟩
      rfl
    · simp only [e12, e9, e8, Bool.and_eq_true, Bool.or_eq_true, Bool.and_eq_false_iff, Bool.or_eq_false_iff, decide_eq_true_eq, decide_eq_false_iff_not, Bool.not_eq_true', Bool.not_eq_false', Bool.not_true, Bool.not_false, eq_self] at ec12
      have ec := ec12
      refine c_skip ?_
      refine hN4 _ _ ?_
      refine c_region fun K hK => ?_
      refine st1 h rfl rfl rfl (v_assign rfl) fun a h => ?_
      refine c_nil hK ?_
      refine c_seq _ (fun a w c => c) fun Q8 hN8 hO8 => ?_
      have hret8 := hO8.ret hret0
      refine c_region fun K hK => ?_
      refine st1 h rfl rfl rfl (v_move rfl) fun a h => ?_
      refine st1 h rfl rfl rfl (v_slen Tryd.underlying9 rfl) fun a h => ?_
      refine st1 h rfl rfl rfl (v_move rfl) fun a h => ?_
      refine c_nil hK ?_
      refine c_lblock fun Q10 hN10 hx0_10 hO10 => ?_
      have hret10 := hO10.ret hret8
      refine c_loopN (fun mu_ a w => ∃ (i : Int) (d : List UInt8), mu_ = (s.length - i).toNat ∧ ((0 ≤ i ∧ i ≤ s.length) ∧ (d = digs (s.take i.toNat))) ∧ Fr 93 [(0, S s), (3, S d), (14, .int .i64 s.length), (15, .int .i64 i)] a ∧ Hp w0 [] w) _ ⟨0, [], rfl, ⟨by omega, rfl⟩, (h.only [0, 3, 14, 15] (l' := [(0, _), (3, _), (14, _), (15, _)]) rfl), H⟩ ?_
      rintro _ a w ⟨i, d, rfl, ⟨hi, hd⟩, h, H⟩ Q11 hN11 hO11
      have hret11 := hO11.ret hret10
      have hx0_11 := hO11.exit (i := 0) rfl hx0_10
      have hdl : d.length ≤ s.length := by rw [hd]; have := digs_len (s.take i.toNat); rw [List.length_take] at this; omega
      have hda : ∀ c ∈ d, isDig c.toNat = true := by rw [hd]; exact digs_all _
      refine c_region fun K hK => ?_
      refine st1b h rfl rfl rfl (v_lt rfl rfl) fun b16 e16 a h => ?_
      refine c_nil hK ?_
      refine c_seq _ (fun a w c => c) fun Q13 hN13 hO13 => ?_
      have hret13 := hO13.ret hret11
      have hx0_13 := hO13.exit (i := 0) rfl hx0_11
      refine c_cond h rfl (fun ec16 => ?_) (fun ec16 => ?_)
      · simp only [e16, Bool.and_eq_true, Bool.or_eq_true, Bool.and_eq_false_iff, Bool.or_eq_false_iff, decide_eq_true_eq, decide_eq_false_iff_not, Bool.not_eq_true', Bool.not_eq_false', Bool.not_true, Bool.not_false, eq_self] at ec16
        have ec := ec16
        refine c_skip ?_
        refine hN13 _ _ ?_
        refine c_block _ (fun a w c => c) fun Q14 hN14 hx1_14 hO14 => ?_
        have hret14 := hO14.ret hret11
        have hx0_14 := hO14.exit (i := 0) rfl hx0_11
        refine c_region fun K hK => ?_
        refine st1 h rfl rfl rfl (v_move rfl) fun a h => ?_
        refine st1 h rfl rfl rfl (v_assign rfl) fun a h => ?_
        refine c_nil hK ?_
        refine c_region fun K hK => ?_
        refine st1 h rfl rfl rfl (v_move rfl) fun a h => ?_
        refine st1 h rfl rfl rfl (v_move rfl) fun a h => ?_
        refine st1 h rfl rfl rfl (v_sidx Tryd.underlying9 rfl rfl (by omega)) fun a h => ?_
        refine st1b h rfl rfl rfl (v_ge rfl rfl) fun b21 e21 a h => ?_
        refine st1 h rfl rfl rfl (v_move rfl) fun a h => ?_
        refine st_g h rfl rfl (gT rfl) rfl rfl (fun e0 => v_move rfl) fun a h => ?_
        refine st_g h rfl rfl (gT rfl) rfl rfl (fun e0 => v_move rfl) fun a h => ?_
        refine st_g h rfl rfl (gT rfl) rfl rfl (fun e0 => v_sidx Tryd.underlying9 (eg e0 rfl) (eg e0 rfl) (by first | omega | (simp only [e21, e16, Bool.and_eq_true, Bool.or_eq_true, Bool.and_eq_false_iff, Bool.or_eq_false_iff, decide_eq_true_eq, decide_eq_false_iff_not, Bool.not_eq_true', Bool.not_eq_false', Bool.not_true, Bool.not_false, eq_self] at e0; omega))) fun a h => ?_
        refine st_gb h rfl rfl (gT rfl) rfl rfl (fun e0 => v_le (eg e0 rfl) rfl) fun b26 e26 a h => ?_
        refine st1b h rfl rfl rfl (v_and rfl rfl) fun b27 e27 a h => ?_
        refine st1 h rfl rfl rfl (v_move rfl) fun a h => ?_
        refine st_g h rfl rfl (gF rfl) rfl rfl (fun e0 => v_move rfl) fun a h => ?_
        refine st_g h rfl rfl (gF rfl) rfl rfl (fun e0 => v_move rfl) fun a h => ?_
        refine st_g h rfl rfl (gF rfl) rfl rfl (fun e0 => v_sidx Tryd.underlying9 (eg e0 rfl) (eg e0 rfl) (by first | omega | (simp only [e27, e26, e21, e16, Bool.and_eq_true, Bool.or_eq_true, Bool.and_eq_false_iff, Bool.or_eq_false_iff, decide_eq_true_eq, decide_eq_false_iff_not, Bool.not_eq_true', Bool.not_eq_false', Bool.not_true, Bool.not_false, eq_self] at e0; omega))) fun a h => ?_
        refine st_gb h rfl rfl (gF rfl) rfl rfl (fun e0 => v_eq (eg e0 rfl) rfl) fun b32 e32 a h => ?_
        refine st1b h rfl rfl rfl (v_or rfl rfl) fun b33 e33 a h => ?_
        refine c_nil hK ?_
        have h := h.only [0, 3, 4, 14, 15, 33] (l' := [(0, _), (3, _), (4, _), (14, _), (15, _), (33, _)]) rfl
        refine c_cond h rfl (fun ec33 => ?_) (fun ec33 => ?_)
        · simp only [e33, e32, e27, e26, e21, e16, Bool.and_eq_true, Bool.or_eq_true, Bool.and_eq_false_iff, Bool.or_eq_false_iff, decide_eq_true_eq, decide_eq_false_iff_not, Bool.not_eq_true', Bool.not_eq_false', Bool.not_true, Bool.not_false, eq_self] at ec33
          have ec := ec33
          refine c_lregion ?_
          refine st1 h rfl rfl rfl (v_move rfl) fun a h => ?_
          refine st1 h rfl rfl rfl (v_move rfl) fun a h => ?_
          refine st1 h rfl rfl rfl (v_move rfl) fun a h => ?_
          refine st1 h rfl rfl rfl (v_move rfl) fun a h => ?_
          refine st1 h rfl rfl rfl (v_add rfl rfl (wi (by omega))) fun a h => ?_
          refine st1 h rfl rfl rfl (v_scut Tryd.underlying9 rfl rfl rfl (by omega)) fun a h => ?_
          refine st1 h rfl rfl rfl (v_sadd rfl rfl (by first | omega | (simp only [cutS_length, List.length_append, List.length_cons, List.length_nil]; omega))) fun a h => ?_
          refine st1 h rfl rfl rfl (v_assign rfl) fun a h => ?_
          refine c_lnil ?_
          refine hN14 _ _ ?_
          have h := h.only [0, 3, 14, 15] (l' := [(0, _), (3, _), (14, _), (15, _)]) rfl
          refine c_lregion ?_
          refine st1 h rfl rfl rfl (v_add rfl rfl (wi (by omega))) fun a h => ?_
          refine st1 h rfl rfl rfl (v_move rfl) fun a h => ?_
          refine c_lnil ?_
          refine hN11 _ _ _ ?_ ⟨i + 1, _, rfl, ?_, (h.only [0, 3, 14, 15] (l' := [(0, _), (3, _), (14, _), (15, _)]) rfl), H⟩
          · omega
          · refine ⟨by omega, ?_⟩
            rw [hd, digs_step s i (by omega), cutS_one s i (by omega), if_pos (by simp [isDig]; omega)]
        · simp only [e33, e32, e27, e26, e21, e16, Bool.and_eq_true, Bool.or_eq_true, Bool.and_eq_false_iff, Bool.or_eq_false_iff, decide_eq_true_eq, decide_eq_false_iff_not, Bool.not_eq_true', Bool.not_eq_false', Bool.not_true, Bool.not_false, eq_self] at ec33
          have ec := ec33
          refine c_skip ?_
          refine hN14 _ _ ?_
          refine c_lregion ?_
          refine st1 h rfl rfl rfl (v_add rfl rfl (wi (by omega))) fun a h => ?_
          refine st1 h rfl rfl rfl (v_move rfl) fun a h => ?_
          refine c_lnil ?_
          refine hN11 _ _ _ ?_ ⟨i + 1, _, rfl, ?_, (h.only [0, 3, 14, 15] (l' := [(0, _), (3, _), (14, _), (15, _)]) rfl), H⟩
          · omega
          · refine ⟨by omega, ?_⟩
            rw [hd, digs_step s i (by omega), if_neg (by simp [isDig]; omega), List.append_nil]
      · simp only [e16, Bool.and_eq_true, Bool.or_eq_true, Bool.and_eq_false_iff, Bool.or_eq_false_iff, decide_eq_true_eq, decide_eq_false_iff_not, Bool.not_eq_true', Bool.not_eq_false', Bool.not_true, Bool.not_false, eq_self] at ec16
        have ec := ec16
        refine c_exit ?_
        refine hx0_13 _ _ ?_
        refine hN8 _ _ ?_
        have h := h.only [3] (l' := [(3, _)]) rfl
        refine c_seq _ (fun a w c => c) fun Q17 hN17 hO17 => ?_
        have hret17 := hO17.ret hret0
        refine c_region fun K hK => ?_
        refine st1 h rfl rfl rfl (v_move rfl) fun a h => ?_
        refine st1b h rfl rfl rfl (v_seq rfl rfl) fun b43 e43 a h => ?_
        refine c_nil hK ?_
        refine c_cond h rfl (fun ec43 => ?_) (fun ec43 => ?_)
        · simp only [e43, e16, Bool.and_eq_true, Bool.or_eq_true, Bool.and_eq_false_iff, Bool.or_eq_false_iff, decide_eq_true_eq, decide_eq_false_iff_not, Bool.not_eq_true', Bool.not_eq_false', Bool.not_true, Bool.not_false, eq_self] at ec43
          have ec := ec43
          refine c_region fun K hK => ?_
          refine st1 h rfl rfl rfl (v_assign rfl) fun a h => ?_
          refine c_nil hK ?_
          refine c_ret (hret17 _ _ (out1 h rfl rfl ?_))
          refine ⟨?_, H.out⟩
          rfl
        · simp only [e43, e16, Bool.and_eq_true, Bool.or_eq_true, Bool.and_eq_false_iff, Bool.or_eq_false_iff, decide_eq_true_eq, decide_eq_false_iff_not, Bool.not_eq_true', Bool.not_eq_false', Bool.not_true, Bool.not_false, eq_self] at ec43
          have ec := ec43
          refine c_skip ?_
          refine hN17 _ _ ?_
          refine c_region fun K hK => ?_
          refine st1 h rfl rfl rfl (v_move rfl) fun a h => ?_
          refine st1 h rfl rfl rfl (v_sadd rfl rfl (by first | omega | (simp only [cutS_length, List.length_append, List.length_cons, List.length_nil]; omega))) fun a h => ?_
          refine st1 h rfl rfl rfl (v_move rfl) fun a h => ?_
          refine st1 h rfl rfl rfl (v_sadd rfl rfl (by first | omega | (simp only [cutS_length, List.length_append, List.length_cons, List.length_nil]; omega))) fun a h => ?_
          refine st2 h rfl rfl rfl (d_call [_] rfl Tryd.call9 (all_ok (d ++ [43] ++ d) _ (GF.ext hG H.out))) ?_
          rintro v49 w ⟨hao, X⟩ a h
          have H := H.ext X
          obtain ⟨sv49, p49, z49, ts49, rfl, hr49, ha49⟩ := hao.gen
          rcases ha49 with ⟨hl49, _⟩ | ⟨hl49, rfl, rfl, hx49⟩ | ⟨hl49, _, _, hx49⟩
          · simp at hl49; omega
          rotate_left
          · exact (lexes_fails (num_lexes d (by simpa using ec43) hda) hx49).elim
          obtain rfl := lexes_det hx49 (num_lexes d (by simpa using ec43) hda)
          refine st1 h rfl rfl rfl (v_move rfl) fun a h => ?_
          refine st1 h rfl rfl rfl (v_extract rfl rfl) fun a h => ?_
          refine st1 h rfl rfl rfl (v_extract rfl rfl) fun a h => ?_
          refine st1 h rfl rfl rfl (v_extract rfl rfl) fun a h => ?_
          refine st1 h rfl rfl rfl (v_assign rfl) fun a h => ?_
          refine st1 h rfl rfl rfl (v_assign rfl) fun a h => ?_
          refine st1 h rfl rfl rfl (v_assign rfl) fun a h => ?_
          refine c_nil hK ?_
          have h := h.only [3, 5, 7] (l' := [(3, _), (5, _), (7, _)]) rfl
          refine c_region fun K hK => ?_
          refine st1 h rfl rfl rfl (v_move rfl) fun a h => ?_
          refine st1b h rfl rfl rfl (v_eq rfl rfl) fun b54 e54 a h => ?_
          refine st1 h rfl rfl rfl (v_move rfl) fun a h => ?_
          refine st_g h rfl rfl (gT rfl) rfl rfl (fun e0 => v_move rfl) fun a h => ?_
          refine st_g h rfl rfl (gT rfl) rfl rfl (fun e0 => v_len Tryd.underlying23 (eg e0 rfl) hr49) fun a h => ?_
          refine st_gb h rfl rfl (gT rfl) rfl rfl (fun e0 => v_eq (eg e0 rfl) rfl) fun b58 e58 a h => ?_
          refine st1b h rfl rfl rfl (v_and rfl rfl) fun b59 e59 a h => ?_
          refine st1 h rfl rfl rfl (v_move rfl) fun a h => ?_
          refine st_g h rfl rfl (gT rfl) rfl rfl (fun e0 => v_move rfl) fun a h => ?_
          refine st_idxG h rfl (gT rfl) Tryd.underlying23 Tryd.sizeOf28 (fun e0 => (eg e0 rfl)) (fun e0 => rfl) hr49 (fun _ => rfl) ⟨1, d, 0⟩ (fun e0 => (by omega)) (fun e0 => rfl) rfl fun a v62 A62 h => ?_
          refine st_fieldG h rfl (gT rfl) (fun e0 => (eg e0 rfl)) (fun e0 => (A62 e0)) Tryd.underlying28 rfl Tryd.sizeOf3 rfl rfl rfl fun a v63 A63 h => ?_
          refine st_g h rfl rfl (gT rfl) rfl rfl (fun e0 => v_loadAt1 (eg e0 rfl) (A63 e0) Tryd.isAgg3 rfl) fun a h => ?_
          refine st_gb h rfl rfl (gT rfl) rfl rfl (fun e0 => v_eq (eg e0 rfl) rfl) fun b65 e65 a h => ?_
          refine st1b h rfl rfl rfl (v_and rfl rfl) fun b66 e66 a h => ?_
          refine st1 h rfl rfl rfl (v_move rfl) fun a h => ?_
          refine st_g h rfl rfl (gT rfl) rfl rfl (fun e0 => v_move rfl) fun a h => ?_
          refine st_idxG h rfl (gT rfl) Tryd.underlying23 Tryd.sizeOf28 (fun e0 => (eg e0 rfl)) (fun e0 => rfl) hr49 (fun _ => rfl) ⟨1, d, 0⟩ (fun e0 => (by omega)) (fun e0 => rfl) rfl fun a v69 A69 h => ?_
          refine st_fieldG h rfl (gT rfl) (fun e0 => (eg e0 rfl)) (fun e0 => (A69 e0)) Tryd.underlying28 rfl Tryd.sizeOf9 rfl rfl rfl fun a v70 A70 h => ?_
          refine st_g h rfl rfl (gT rfl) rfl rfl (fun e0 => v_loadAt1 (eg e0 rfl) (A70 e0) Tryd.isAgg9 rfl) fun a h => ?_
          refine st_g h rfl rfl (gT rfl) rfl rfl (fun e0 => v_move rfl) fun a h => ?_
          refine st_gb h rfl rfl (gT rfl) rfl rfl (fun e0 => v_seq (eg e0 rfl) (eg e0 rfl)) fun b73 e73 a h => ?_
          refine st1b h rfl rfl rfl (v_and rfl rfl) fun b74 e74 a h => ?_
          refine st1 h rfl rfl rfl (v_move rfl) fun a h => ?_
          refine st_g h rfl rfl (gT rfl) rfl rfl (fun e0 => v_move rfl) fun a h => ?_
          refine st_idxG h rfl (gT rfl) Tryd.underlying23 Tryd.sizeOf28 (fun e0 => (eg e0 rfl)) (fun e0 => rfl) hr49 (fun _ => rfl) ⟨1, d, d.length + 1⟩ (fun e0 => (by omega)) (fun e0 => rfl) rfl fun a v77 A77 h => ?_
          refine st_fieldG h rfl (gT rfl) (fun e0 => (eg e0 rfl)) (fun e0 => (A77 e0)) Tryd.underlying28 rfl Tryd.sizeOf9 rfl rfl rfl fun a v78 A78 h => ?_
          refine st_g h rfl rfl (gT rfl) rfl rfl (fun e0 => v_loadAt1 (eg e0 rfl) (A78 e0) Tryd.isAgg9 rfl) fun a h => ?_
          refine st_g h rfl rfl (gT rfl) rfl rfl (fun e0 => v_move rfl) fun a h => ?_
          refine st_gb h rfl rfl (gT rfl) rfl rfl (fun e0 => v_seq (eg e0 rfl) (eg e0 rfl)) fun b81 e81 a h => ?_
          refine st1b h rfl rfl rfl (v_and rfl rfl) fun b82 e82 a h => ?_
          refine st1 h rfl rfl rfl (v_move rfl) fun a h => ?_
          refine st_g h rfl rfl (gT rfl) rfl rfl (fun e0 => v_move rfl) fun a h => ?_
          refine st_idxG h rfl (gT rfl) Tryd.underlying23 Tryd.sizeOf28 (fun e0 => (eg e0 rfl)) (fun e0 => rfl) hr49 (fun _ => rfl) ⟨1, d, d.length + 1⟩ (fun e0 => (by omega)) (fun e0 => rfl) rfl fun a v85 A85 h => ?_
          refine st_fieldG h rfl (gT rfl) (fun e0 => (eg e0 rfl)) (fun e0 => (A85 e0)) Tryd.underlying28 rfl Tryd.sizeOf3 rfl rfl rfl fun a v86 A86 h => ?_
          refine st_g h rfl rfl (gT rfl) rfl rfl (fun e0 => v_loadAt1 (eg e0 rfl) (A86 e0) Tryd.isAgg3 rfl) fun a h => ?_
          refine st_g h rfl rfl (gT rfl) rfl rfl (fun e0 => v_move rfl) fun a h => ?_
          refine st_g h rfl rfl (gT rfl) rfl rfl (fun e0 => v_slen Tryd.underlying9 (eg e0 rfl)) fun a h => ?_
          refine st_g h rfl rfl (gT rfl) rfl rfl (fun e0 => v_add (eg e0 rfl) rfl (wi (by first | omega | (simp only [e82, e81, e74, e73, e66, e65, e59, e58, e54, e43, e16, Bool.and_eq_true, Bool.or_eq_true, Bool.and_eq_false_iff, Bool.or_eq_false_iff, decide_eq_true_eq, decide_eq_false_iff_not, Bool.not_eq_true', Bool.not_eq_false', Bool.not_true, Bool.not_false, eq_self] at e0; omega)))) fun a h => ?_
          refine st_gb h rfl rfl (gT rfl) rfl rfl (fun e0 => v_eq (eg e0 rfl) (eg e0 rfl)) fun b91 e91 a h => ?_
          refine st1b h rfl rfl rfl (v_and rfl rfl) fun b92 e92 a h => ?_
          refine st1 h rfl rfl rfl (v_assign rfl) fun a h => ?_
          refine c_nil hK ?_
          have h := h.only [2] (l' := [(2, _)]) rfl
          clear A62
          clear A63
          clear A69
          clear A70
          clear A77
          clear A78
          clear A85
          clear A86
          refine c_ret (hret0 _ _ (out1 h rfl rfl ?_))
          refine ⟨?_, H.out⟩
          subst_vars
          simp

end Go.Proofs.YtdepoohfljaogaaDoor
