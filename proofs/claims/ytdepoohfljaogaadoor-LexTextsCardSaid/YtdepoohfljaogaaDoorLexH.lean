/- Walks of the functions of package lex, the law LexTexts. -/
import Derived.Test.YtdepoohfljaogaaDoorF
import Derived.Test.YtdepoohfljaogaaDoorLexPlain
import Derived.Test.YtdepoohfljaogaaDoorLexE
import Derived.Test.YtdepoohfljaogaaDoorLexLawB
import Derived.Test.YtdepoohfljaogaaDoorShelf
set_option linter.unusedSimpArgs false
set_option linter.unusedVariables false
set_option linter.unusedSectionVars false
namespace Go.Proofs.YtdepoohfljaogaaDoor
open Go.Stp Go.RowKit Go.LexP
theorem lexTexts_ok (s : List UInt8) (w0 : World) (hG : GF w0) : Calls Tryd.prog 6 [S s].toArray w0 (Ret fun v w => v = .bool true ∧ Ext w0 w) := by
  refine enter Tryd.func6 rfl rfl rfl fun Q a h hret0 hnor => ?_
  have H := Hp.start w0
  have h := h.only [0] (l' := [(0, _)]) rfl
  refine c_region fun K hK => ?_
  refine st1 h rfl rfl rfl (v_assign rfl) fun a h => ?_
  refine c_nil hK ?_
  refine c_seq _ (fun a w c => c) fun Q2 hN2 hO2 => ?_
  have hret2 := hO2.ret hret0
  refine c_region fun K hK => ?_
  refine st2b (T := Ext) h rfl rfl rfl (d_call [] rfl Tryd.call8 (fit_ok _ (GF.ext hG H.out))) fun b10 e10 w X a h => ?_
  have H := H.ext X
  refine st1b h rfl rfl rfl (v_not rfl) fun b11 e11 a h => ?_
  refine c_nil hK ?_
  refine c_cond h rfl (fun ec11 => ?_) (fun ec11 => ?_)
  · have ec := ec11
    exact absurd ec (by simp [e11, e10])
  · have ec := ec11
    skip
    refine c_skip ?_
    refine hN2 _ _ ?_
    refine c_seq _ (fun a w c => c) fun Q4 hN4 hO4 => ?_
    have hret4 := hO4.ret hret0
    refine c_region fun K hK => ?_
    refine st1 h rfl rfl rfl (v_move rfl) fun a h => ?_
    refine st1 h rfl rfl rfl (v_slen Tryd.underlying9 rfl) fun a h => ?_
    refine st1b h rfl rfl rfl (v_gt rfl rfl) fun b14 e14 a h => ?_
    refine c_nil hK ?_
    have h := h.only [0, 14] (l' := [(0, _), (14, _)]) rfl
    refine c_cond h rfl (fun ec14 => ?_) (fun ec14 => ?_)
    · simp only [e14, e11, e10, Bool.and_eq_true, Bool.or_eq_true, Bool.and_eq_false_iff, Bool.or_eq_false_iff, decide_eq_true_eq, decide_eq_false_iff_not, Bool.not_eq_true', Bool.not_eq_false', Bool.not_true, Bool.not_false, eq_self] at ec14
      have ec := ec14
      refine c_region fun K hK => ?_
      refine st1 h rfl rfl rfl (v_assign rfl) fun a h => ?_
      refine c_nil hK ?_
      refine c_ret (hret4 _ _ (out1 h rfl rfl ?_))
      refine ⟨?_, H.out⟩
      rfl
    · simp only [e14, e11, e10, Bool.and_eq_true, Bool.or_eq_true, Bool.and_eq_false_iff, Bool.or_eq_false_iff, decide_eq_true_eq, decide_eq_false_iff_not, Bool.not_eq_true', Bool.not_eq_false', Bool.not_true, Bool.not_false, eq_self] at ec14
      have ec := ec14
      refine c_skip ?_
      refine hN4 _ _ ?_
      refine c_region fun K hK => ?_
      refine st1 h rfl rfl rfl (v_move rfl) fun a h => ?_
      refine st1 h rfl rfl rfl (v_build bld28 [_, _] [_, _, _] rfl rfl) fun a h => ?_
      refine st2v (T := Ext) h rfl rfl rfl (d_call [_] rfl Tryd.call10 (ltext_ok 2 0 s _ (by omega))) fun w X a h => ?_
      have H := H.ext X
      have hq := quote_len s
      have hdl := dbl_len s
      refine st1 h rfl rfl rfl (v_assign rfl) fun a h => ?_
      refine c_nil hK ?_
      have h := h.only [0, 3] (l' := [(0, _), (3, _)]) rfl
      refine c_region fun K hK => ?_
      refine st1 h rfl rfl rfl (v_move rfl) fun a h => ?_
      refine st1 h rfl rfl rfl (v_sadd rfl rfl (by first | omega | (simp only [cutS_length, List.length_append, List.length_cons, List.length_nil]; omega))) fun a h => ?_
      refine st2 h rfl rfl rfl (d_call [_] rfl Tryd.call9 (all_ok (quote 2 s ++ [38, 49]) _ (GF.ext hG H.out))) ?_
      rintro v21 w ⟨hao, X⟩ a h
      have H := H.ext X
      obtain ⟨sv21, p21, z21, ts21, rfl, hr21, ha21⟩ := hao.gen
      refine st1 h rfl rfl rfl (v_move rfl) fun a h => ?_
      refine st1 h rfl rfl rfl (v_extract rfl rfl) fun a h => ?_
      refine st1 h rfl rfl rfl (v_extract rfl rfl) fun a h => ?_
      refine st1 h rfl rfl rfl (v_extract rfl rfl) fun a h => ?_
      refine st1 h rfl rfl rfl (v_assign rfl) fun a h => ?_
      refine st1 h rfl rfl rfl (v_assign rfl) fun a h => ?_
      refine st1 h rfl rfl rfl (v_assign rfl) fun a h => ?_
      refine c_nil hK ?_
      have h := h.only [0, 3, 4, 6] (l' := [(0, _), (3, _), (4, _), (6, _)]) rfl
      refine c_seq _ (fun a w c => c) fun Q9 hN9 hO9 => ?_
      have hret9 := hO9.ret hret0
      refine c_region fun K hK => ?_
      refine st1 h rfl rfl rfl (v_move rfl) fun a h => ?_
      refine st1 h rfl rfl rfl (v_slen Tryd.underlying9 rfl) fun a h => ?_
      refine st1b h rfl rfl rfl (v_gt rfl rfl) fun b27 e27 a h => ?_
      refine c_nil hK ?_
      refine c_cond h rfl (fun ec27 => ?_) (fun ec27 => ?_)
      · simp only [e27, e14, e11, e10, Bool.and_eq_true, Bool.or_eq_true, Bool.and_eq_false_iff, Bool.or_eq_false_iff, decide_eq_true_eq, decide_eq_false_iff_not, Bool.not_eq_true', Bool.not_eq_false', Bool.not_true, Bool.not_false, eq_self] at ec27
        have ec := ec27
        refine c_region fun K hK => ?_
        refine st1 h rfl rfl rfl (v_move rfl) fun a h => ?_
        refine st1b h rfl rfl rfl (v_eq rfl rfl) fun b29 e29 a h => ?_
        refine st1 h rfl rfl rfl (v_assign rfl) fun a h => ?_
        refine c_nil hK ?_
        have h := h.only [2] (l' := [(2, _)]) rfl
        refine c_ret (hret9 _ _ (out1 h rfl rfl ?_))
        refine ⟨?_, H.out⟩
        rcases ha21 with ⟨_, _, _, rfl⟩ | ⟨hl21, _⟩ | ⟨hl21, _⟩
        · subst_vars; rfl
        · simp at hl21; omega
        · simp at hl21; omega
      · have ec := ec27
        simp only [e27, decide_eq_false_iff_not] at ec
        have ec27b := ec
        rcases ha21 with ⟨hl21, _⟩ | ⟨hl21, hp21, hz21, hx21⟩ | ⟨hl21, _, _, hx21⟩
        · first | omega | (simp at hl21; omega)
        rotate_left
        · exact (lexes_fails (text_lexes s) hx21).elim
        have ht21 := lexes_det hx21 (text_lexes s)
        rw [ht21] at hr21
        refine c_skip ?_
        refine hN9 _ _ ?_
        refine c_region fun K hK => ?_
        refine st1 h rfl rfl rfl (v_move rfl) fun a h => ?_
        refine st1 h rfl rfl rfl (v_move rfl) fun a h => ?_
        refine st1 h rfl rfl rfl (v_slen Tryd.underlying9 rfl) fun a h => ?_
        refine st1 h rfl rfl rfl (v_sub rfl rfl (wi (by omega))) fun a h => ?_
        refine st1 h rfl rfl rfl (v_scutHi Tryd.underlying9 rfl rfl (by omega)) fun a h => ?_
        refine st1 h rfl rfl rfl (v_sadd rfl rfl (by first | omega | (simp only [cutS_length, List.length_append, List.length_cons, List.length_nil]; omega))) fun a h => ?_
        refine st2 h rfl rfl rfl (d_call [_] rfl Tryd.call9 (all_ok ([49, 43] ++ cutS (quote 2 s) 0 (((quote 2 s).length : Int) - 1)) _ (GF.ext hG H.out))) ?_
        rintro v37 w ⟨hao, X⟩ a h
        have H := H.ext X
        obtain ⟨sv37, p37, z37, ts37, rfl, hr37, ha37⟩ := hao.gen
        have hr21 := Reads.ext hr21 X
        refine st1 h rfl rfl rfl (v_move rfl) fun a h => ?_
        refine st1 h rfl rfl rfl (v_extract rfl rfl) fun a h => ?_
        refine st1 h rfl rfl rfl (v_extract rfl rfl) fun a h => ?_
        refine st1 h rfl rfl rfl (v_extract rfl rfl) fun a h => ?_
        refine st1 h rfl rfl rfl (v_assign rfl) fun a h => ?_
        refine st1 h rfl rfl rfl (v_assign rfl) fun a h => ?_
        refine st1 h rfl rfl rfl (v_assign rfl) fun a h => ?_
        refine c_nil hK ?_
        have h := h.only [0, 3, 4, 6, 8, 9] (l' := [(0, _), (3, _), (4, _), (6, _), (8, _), (9, _)]) rfl
        refine c_region fun K hK => ?_
        refine st1 h rfl rfl rfl (v_move rfl) fun a h => ?_
        refine st1b h rfl rfl rfl (v_eq rfl rfl) fun b42 e42 a h => ?_
        refine st1 h rfl rfl rfl (v_move rfl) fun a h => ?_
        refine st_g h rfl rfl (gT rfl) rfl rfl (fun e0 => v_move rfl) fun a h => ?_
        refine st_g h rfl rfl (gT rfl) rfl rfl (fun e0 => v_len Tryd.underlying23 (eg e0 rfl) hr21) fun a h => ?_
        refine st_gb h rfl rfl (gT rfl) rfl rfl (fun e0 => v_eq (eg e0 rfl) rfl) fun b46 e46 a h => ?_
        refine st1b h rfl rfl rfl (v_and rfl rfl) fun b47 e47 a h => ?_
        refine st1 h rfl rfl rfl (v_move rfl) fun a h => ?_
        refine st_g h rfl rfl (gT rfl) rfl rfl (fun e0 => v_move rfl) fun a h => ?_
        refine st_idxG h rfl (gT rfl) Tryd.underlying23 Tryd.sizeOf28 (fun e0 => (eg e0 rfl)) (fun e0 => rfl) hr21 (fun _ => rfl) ⟨2, s, 0⟩ (fun e0 => (by omega)) (fun e0 => rfl) rfl fun a v50 A50 h => ?_
        refine st_fieldG h rfl (gT rfl) (fun e0 => (eg e0 rfl)) (fun e0 => (A50 e0)) Tryd.underlying28 rfl Tryd.sizeOf3 rfl rfl rfl fun a v51 A51 h => ?_
        refine st_g h rfl rfl (gT rfl) rfl rfl (fun e0 => v_loadAt1 (eg e0 rfl) (A51 e0) Tryd.isAgg3 rfl) fun a h => ?_
        refine st_gb h rfl rfl (gT rfl) rfl rfl (fun e0 => v_eq (eg e0 rfl) rfl) fun b53 e53 a h => ?_
        refine st1b h rfl rfl rfl (v_and rfl rfl) fun b54 e54 a h => ?_
        refine st1 h rfl rfl rfl (v_move rfl) fun a h => ?_
        refine st_g h rfl rfl (gT rfl) rfl rfl (fun e0 => v_move rfl) fun a h => ?_
        refine st_idxG h rfl (gT rfl) Tryd.underlying23 Tryd.sizeOf28 (fun e0 => (eg e0 rfl)) (fun e0 => rfl) hr21 (fun _ => rfl) ⟨2, s, 0⟩ (fun e0 => (by omega)) (fun e0 => rfl) rfl fun a v57 A57 h => ?_
        refine st_fieldG h rfl (gT rfl) (fun e0 => (eg e0 rfl)) (fun e0 => (A57 e0)) Tryd.underlying28 rfl Tryd.sizeOf9 rfl rfl rfl fun a v58 A58 h => ?_
        refine st_g h rfl rfl (gT rfl) rfl rfl (fun e0 => v_loadAt1 (eg e0 rfl) (A58 e0) Tryd.isAgg9 rfl) fun a h => ?_
        refine st_g h rfl rfl (gT rfl) rfl rfl (fun e0 => v_move rfl) fun a h => ?_
        refine st_gb h rfl rfl (gT rfl) rfl rfl (fun e0 => v_seq (eg e0 rfl) (eg e0 rfl)) fun b61 e61 a h => ?_
        refine st1b h rfl rfl rfl (v_and rfl rfl) fun b62 e62 a h => ?_
        refine st1 h rfl rfl rfl (v_move rfl) fun a h => ?_
        refine st_g h rfl rfl (gT rfl) rfl rfl (fun e0 => v_move rfl) fun a h => ?_
        refine st_idxG h rfl (gT rfl) Tryd.underlying23 Tryd.sizeOf28 (fun e0 => (eg e0 rfl)) (fun e0 => rfl) hr21 (fun _ => rfl) ⟨4, [38], (quote 2 s).length⟩ (fun e0 => (by omega)) (fun e0 => rfl) rfl fun a v65 A65 h => ?_
        refine st_fieldG h rfl (gT rfl) (fun e0 => (eg e0 rfl)) (fun e0 => (A65 e0)) Tryd.underlying28 rfl Tryd.sizeOf3 rfl rfl rfl fun a v66 A66 h => ?_
        refine st_g h rfl rfl (gT rfl) rfl rfl (fun e0 => v_loadAt1 (eg e0 rfl) (A66 e0) Tryd.isAgg3 rfl) fun a h => ?_
        refine st_g h rfl rfl (gT rfl) rfl rfl (fun e0 => v_move rfl) fun a h => ?_
        refine st_g h rfl rfl (gT rfl) rfl rfl (fun e0 => v_slen Tryd.underlying9 (eg e0 rfl)) fun a h => ?_
        refine st_gb h rfl rfl (gT rfl) rfl rfl (fun e0 => v_eq (eg e0 rfl) (eg e0 rfl)) fun b70 e70 a h => ?_
        refine st1b h rfl rfl rfl (v_and rfl rfl) fun b71 e71 a h => ?_
        refine st1 h rfl rfl rfl (v_move rfl) fun a h => ?_
        refine st_g h rfl rfl (gT rfl) rfl rfl (fun e0 => v_move rfl) fun a h => ?_
        refine st_gb h rfl rfl (gT rfl) rfl rfl (fun e0 => v_eq (eg e0 rfl) rfl) fun b74 e74 a h => ?_
        refine st_g h rfl rfl (gT rfl) rfl rfl (fun e0 => v_move (eg e0 rfl)) fun a h => ?_
        refine st_g h rfl rfl (ggT rfl) rfl rfl (fun e0 => v_move rfl) fun a h => ?_
        refine st_gb h rfl rfl (ggT rfl) rfl rfl (fun e0 => v_eq (eg e0 rfl) rfl) fun b77 e77 a h => ?_
        refine st_gb h rfl rfl (gT rfl) rfl rfl (fun e0 => v_and (eg e0 rfl) (egn e0 rfl)) fun b78 e78 a h => ?_
        refine st_g h rfl rfl (gT rfl) rfl rfl (fun e0 => v_move (eg e0 rfl)) fun a h => ?_
        refine st_g h rfl rfl (ggF rfl) rfl rfl (fun e0 => v_move rfl) fun a h => ?_
        refine st_g h rfl rfl (ggF rfl) rfl rfl (fun e0 => v_slen Tryd.underlying9 (eg e0 rfl)) fun a h => ?_
        refine st_gb h rfl rfl (ggF rfl) rfl rfl (fun e0 => v_gt (eg e0 rfl) rfl) fun b82 e82 a h => ?_
        refine st_gb h rfl rfl (gT rfl) rfl rfl (fun e0 => v_or (eg e0 rfl) (egn e0 rfl)) fun b83 e83 a h => ?_
        refine st1b h rfl rfl rfl (v_and rfl rfl) fun b84 e84 a h => ?_
        refine st1 h rfl rfl rfl (v_assign rfl) fun a h => ?_
        refine c_nil hK ?_
        have h := h.only [2] (l' := [(2, _)]) rfl
        clear A50
        clear A51
        clear A57
        clear A58
        clear A65
        clear A66
        refine c_ret (hret0 _ _ (out1 h rfl rfl ?_))
        refine ⟨?_, H.out⟩
        by_cases hs0 : s = []
        · subst hs0
          have hx : Fails ([49, 43] ++ cutS (quote 2 []) 0 (((quote 2 []).length : Int) - 1)) 0 2 := fail_lexes
          rcases ha37 with ⟨hl37, _⟩ | ⟨_, _, _, hx37⟩ | ⟨_, _, rfl, hx37⟩
          · exact absurd hl37 (by decide)
          · exact (lexes_fails hx37 hx).elim
          · obtain rfl := fails_det hx37 hx
            subst_vars
            simp
        · subst_vars
          simp [hs0, List.length_pos_iff]

end Go.Proofs.YtdepoohfljaogaaDoor
