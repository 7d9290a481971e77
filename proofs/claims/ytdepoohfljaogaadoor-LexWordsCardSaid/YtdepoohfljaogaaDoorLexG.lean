/- Walks of the functions of package lex, the law LexWords. -/
import Derived.Test.YtdepoohfljaogaaDoorF
import Derived.Test.YtdepoohfljaogaaDoorLexPlain
import Derived.Test.YtdepoohfljaogaaDoorLexE
import Derived.Test.YtdepoohfljaogaaDoorLexLawB
import Derived.Test.YtdepoohfljaogaaDoorShelf
set_option linter.unusedSimpArgs false
set_option linter.unusedVariables false
set_option linter.unusedSectionVars false
namespace Go.Proofs.YtdepoohfljaogaaDoor
open Go.Stp Go.RowKit Go.LexP
theorem lexWords_ok (n c : Int) (w0 : World) (hn : -9223372036854775808 ≤ n ∧ n ≤ 9223372036854775807) (hc : 0 ≤ c ∧ c ≤ 255) (hG : GF w0) : Calls Tryd.prog 5 [.int .i64 n, .int .u8 c].toArray w0 (Ret fun v w => v = .bool true ∧ Ext w0 w) := by
  refine enter Tryd.func5 rfl rfl rfl fun Q a h hret0 hnor => ?_
  have H := Hp.start w0
  have h := h.only [0, 1] (l' := [(0, _), (1, _)]) rfl
  refine c_region fun K hK => ?_
  refine st1 h rfl rfl rfl (v_assign rfl) fun a h => ?_
  refine c_nil hK ?_
  refine c_seq _ (fun a w c => c) fun Q2 hN2 hO2 => ?_
  have hret2 := hO2.ret hret0
  refine c_region fun K hK => ?_
  refine st2b (T := Ext) h rfl rfl rfl (d_call [] rfl Tryd.call8 (fit_ok _ (GF.ext hG H.out))) fun b10 e10 w X a h => ?_
  have H := H.ext X
  refine st1b h rfl rfl rfl (v_not rfl) fun b11 e11 a h => ?_
  refine c_nil hK ?_
  refine c_cond h rfl (fun ec11 => ?_) (fun ec11 => ?_)
  · have ec := ec11
    exact absurd ec (by simp [e11, e10])
  · have ec := ec11
    skip
    refine c_skip ?_
    refine hN2 _ _ ?_
    refine c_region fun K hK => ?_
    refine st1 h rfl rfl rfl (v_move rfl) fun a h => ?_
    refine st1b h rfl rfl rfl (v_ge rfl rfl) fun b13 e13 a h => ?_
    refine st1 h rfl rfl rfl (v_move rfl) fun a h => ?_
    refine st_g h rfl rfl (gT rfl) rfl rfl (fun e0 => v_move rfl) fun a h => ?_
    refine st_gb h rfl rfl (gT rfl) rfl rfl (fun e0 => v_le (eg e0 rfl) rfl) fun b16 e16 a h => ?_
    refine st1b h rfl rfl rfl (v_and rfl rfl) fun b17 e17 a h => ?_
    refine st1 h rfl rfl rfl (v_move rfl) fun a h => ?_
    refine st_g h rfl rfl (gF rfl) rfl rfl (fun e0 => v_move rfl) fun a h => ?_
    refine st_gb h rfl rfl (gF rfl) rfl rfl (fun e0 => v_ge (eg e0 rfl) rfl) fun b20 e20 a h => ?_
    refine st_g h rfl rfl (gF rfl) rfl rfl (fun e0 => v_move (eg e0 rfl)) fun a h => ?_
    refine st_g h rfl rfl (ggT rfl) rfl rfl (fun e0 => v_move rfl) fun a h => ?_
    refine st_gb h rfl rfl (ggT rfl) rfl rfl (fun e0 => v_le (eg e0 rfl) rfl) fun b23 e23 a h => ?_
    refine st_gb h rfl rfl (gF rfl) rfl rfl (fun e0 => v_and (eg e0 rfl) (egn e0 rfl)) fun b24 e24 a h => ?_
    refine st1b h rfl rfl rfl (v_or rfl rfl) fun b25 e25 a h => ?_
    refine st1 h rfl rfl rfl (v_move rfl) fun a h => ?_
    refine st_g h rfl rfl (gF rfl) rfl rfl (fun e0 => v_move rfl) fun a h => ?_
    refine st_gb h rfl rfl (gF rfl) rfl rfl (fun e0 => v_eq (eg e0 rfl) rfl) fun b28 e28 a h => ?_
    refine st1b h rfl rfl rfl (v_or rfl rfl) fun b29 e29 a h => ?_
    refine st1 h rfl rfl rfl (v_move rfl) fun a h => ?_
    refine st_g h rfl rfl (gF rfl) rfl rfl (fun e0 => v_move rfl) fun a h => ?_
    refine st_gb h rfl rfl (gF rfl) rfl rfl (fun e0 => v_eq (eg e0 rfl) rfl) fun b32 e32 a h => ?_
    refine st1b h rfl rfl rfl (v_or rfl rfl) fun b33 e33 a h => ?_
    refine st1 h rfl rfl rfl (v_move rfl) fun a h => ?_
    refine st_g h rfl rfl (gF rfl) rfl rfl (fun e0 => v_move rfl) fun a h => ?_
    refine st_gb h rfl rfl (gF rfl) rfl rfl (fun e0 => v_eq (eg e0 rfl) rfl) fun b36 e36 a h => ?_
    refine st1b h rfl rfl rfl (v_or rfl rfl) fun b37 e37 a h => ?_
    refine st1 h rfl rfl rfl (v_assign rfl) fun a h => ?_
    refine c_nil hK ?_
    have h := h.only [0, 1, 5] (l' := [(0, _), (1, _), (5, _)]) rfl
    refine c_seq _ (fun a w c => c) fun Q5 hN5 hO5 => ?_
    have hret5 := hO5.ret hret0
    refine c_region fun K hK => ?_
    refine st1 h rfl rfl rfl (v_move rfl) fun a h => ?_
    refine st2b (T := Ext) h rfl rfl rfl (d_call [_] rfl Tryd.call11 (isWord_ok _ _)) fun b39 e39 w X a h => ?_
    have H := H.ext X
    refine st1 h rfl rfl rfl (v_move rfl) fun a h => ?_
    refine st1b h rfl rfl rfl (v_bne Tryd.underlying4 rfl rfl) fun b41 e41 a h => ?_
    refine c_nil hK ?_
    have h := h.only [0, 41] (l' := [(0, _), (41, _)]) rfl
    refine c_cond h rfl (fun ec41 => ?_) (fun ec41 => ?_)
    · have ec := ec41
      exact absurd ec (by rw [e41, e39, e37, e36, e33, e32, e29, e28, e25, e24, e23, e20, e17, e16, e13]; simp [isWord])
    · have ec := ec41
      skip
      refine c_skip ?_
      refine hN5 _ _ ?_
      refine c_region fun K hK => ?_
      refine st1 h rfl rfl rfl (v_move rfl) fun a h => ?_
      refine st1 h rfl rfl rfl (v_rem rfl rfl (by omega)) fun a h => ?_
      have hm1 := tmod7 n
      refine st1 h rfl rfl rfl (v_add rfl rfl (wi (by omega))) fun a h => ?_
      refine st1 h rfl rfl rfl (v_rem rfl rfl (by omega)) fun a h => ?_
      have hm2 := tmod7 (n.tmod 7 + 7)
      have hm3 := tmod7p (n.tmod 7 + 7) (by omega)
      refine st1 h rfl rfl rfl (v_add rfl rfl (wi (by omega))) fun a h => ?_
      refine st1 h rfl rfl rfl (v_assign rfl) fun a h => ?_
      refine c_nil hK ?_
      have h := h.only [6] (l' := [(6, _)]) rfl
      refine c_region fun K hK => ?_
      refine st1 h rfl rfl rfl (v_move rfl) fun a h => ?_
      refine st2v (T := Ext) h rfl rfl rfl (d_call [_] rfl Tryd.call12 (errName_ok ((n.tmod 7 + 7).tmod 7 + 1) _ (by omega) (GF.ext hG H.out))) fun w X a h => ?_
      have H := H.ext X
      have hel := errName_len ((n.tmod 7 + 7).tmod 7 + 1)
      refine st1 h rfl rfl rfl (v_sadd rfl rfl (by first | omega | (simp only [cutS_length, List.length_append, List.length_cons, List.length_nil]; omega))) fun a h => ?_
      refine st2 h rfl rfl rfl (d_call [_] rfl Tryd.call9 (all_ok (errName ((n.tmod 7 + 7).tmod 7 + 1) ++ [43, 65, 49]) _ (GF.ext hG H.out))) ?_
      rintro v51 w ⟨hao, X⟩ a h
      have H := H.ext X
      obtain ⟨sv51, p51, z51, ts51, rfl, hr51, ha51⟩ := hao.gen
      rcases ha51 with ⟨hl51, _⟩ | ⟨hl51, rfl, rfl, hx51⟩ | ⟨hl51, _, _, hx51⟩
      · simp at hl51; omega
      rotate_left
      · exact (lexes_fails (err_lexes ((n.tmod 7 + 7).tmod 7 + 1) (by omega)) hx51).elim
      obtain rfl := lexes_det hx51 (err_lexes ((n.tmod 7 + 7).tmod 7 + 1) (by omega))
      refine st1 h rfl rfl rfl (v_move rfl) fun a h => ?_
      refine st1 h rfl rfl rfl (v_extract rfl rfl) fun a h => ?_
      refine st1 h rfl rfl rfl (v_extract rfl rfl) fun a h => ?_
      refine st1 h rfl rfl rfl (v_extract rfl rfl) fun a h => ?_
      refine st1 h rfl rfl rfl (v_assign rfl) fun a h => ?_
      refine st1 h rfl rfl rfl (v_assign rfl) fun a h => ?_
      refine st1 h rfl rfl rfl (v_assign rfl) fun a h => ?_
      refine c_nil hK ?_
      have h := h.only [6, 7, 9] (l' := [(6, _), (7, _), (9, _)]) rfl
      refine c_quiet (by kernel_rfl) (by kernel_rfl) ?_
      refine q1 h rfl rfl rfl (fun w X => v_move rfl) fun a h => ?_
      refine q1b h rfl rfl rfl (fun w X => v_eq rfl rfl) fun b56 e56 a h => ?_
      refine q1 h rfl rfl rfl (fun w X => v_move rfl) fun a h => ?_
      refine q_g h rfl rfl (gT rfl) rfl rfl (fun e0 w X => v_move rfl) fun a h => ?_
      refine q_g h rfl rfl (gT rfl) rfl rfl (fun e0 w X => have hr51 := Reads.ext hr51 X; v_len Tryd.underlying23 (eg e0 rfl) hr51) fun a h => ?_
      refine q_gb h rfl rfl (gT rfl) rfl rfl (fun e0 w X => v_eq (eg e0 rfl) rfl) fun b60 e60 a h => ?_
      refine q1b h rfl rfl rfl (fun w X => v_and rfl rfl) fun b61 e61 a h => ?_
      refine q1 h rfl rfl rfl (fun w X => v_move rfl) fun a h => ?_
      refine q_g h rfl rfl (gT rfl) rfl rfl (fun e0 w X => v_move rfl) fun a h => ?_
      refine q_idxG h rfl (gT rfl) Tryd.underlying23 Tryd.sizeOf28 (fun e0 => (eg e0 rfl)) (fun e0 => rfl) hr51 (fun _ => rfl) ⟨5, errName ((n.tmod 7 + 7).tmod 7 + 1), 0⟩ (fun e0 => (by omega)) (fun e0 => rfl) rfl fun a v64 A64 h => ?_
      refine q_fieldG h rfl (gT rfl) (fun e0 => (eg e0 rfl)) (fun e0 => (A64 e0)) Tryd.underlying28 rfl Tryd.sizeOf3 rfl rfl rfl fun a v65 A65 h => ?_
      refine q_g h rfl rfl (gT rfl) rfl rfl (fun e0 w X => have A65 := AtG.ext A65 X; v_loadAt1 (eg e0 rfl) (A65 e0) Tryd.isAgg3 rfl) fun a h => ?_
      refine q_gb h rfl rfl (gT rfl) rfl rfl (fun e0 w X => v_eq (eg e0 rfl) rfl) fun b67 e67 a h => ?_
      refine q1b h rfl rfl rfl (fun w X => v_and rfl rfl) fun b68 e68 a h => ?_
      refine q1 h rfl rfl rfl (fun w X => v_move rfl) fun a h => ?_
      refine q_g h rfl rfl (gT rfl) rfl rfl (fun e0 w X => v_move rfl) fun a h => ?_
      refine q_idxG h rfl (gT rfl) Tryd.underlying23 Tryd.sizeOf28 (fun e0 => (eg e0 rfl)) (fun e0 => rfl) hr51 (fun _ => rfl) ⟨5, errName ((n.tmod 7 + 7).tmod 7 + 1), 0⟩ (fun e0 => (by omega)) (fun e0 => rfl) rfl fun a v71 A71 h => ?_
      refine q_fieldG h rfl (gT rfl) (fun e0 => (eg e0 rfl)) (fun e0 => (A71 e0)) Tryd.underlying28 rfl Tryd.sizeOf9 rfl rfl rfl fun a v72 A72 h => ?_
      refine q_g h rfl rfl (gT rfl) rfl rfl (fun e0 w X => have A72 := AtG.ext A72 X; v_loadAt1 (eg e0 rfl) (A72 e0) Tryd.isAgg9 rfl) fun a h => ?_
      refine q_g h rfl rfl (gT rfl) rfl rfl (fun e0 w X => v_move rfl) fun a h => ?_
      refine q_gd h rfl rfl (gT rfl) rfl rfl (fun e0 w X => have H := H.ext X; q_call [_] (evs_c (eg e0 rfl) evs_n) Tryd.call12 X (errName_ok ((n.tmod 7 + 7).tmod 7 + 1) _ (by omega) (GF.ext hG H.out))) fun a h => ?_
      refine q_gb h rfl rfl (gT rfl) rfl rfl (fun e0 w X => v_seq (eg e0 rfl) (eg e0 rfl)) fun b76 e76 a h => ?_
      refine q1b h rfl rfl rfl (fun w X => v_and rfl rfl) fun b77 e77 a h => ?_
      refine q1 h rfl rfl rfl (fun w X => v_move rfl) fun a h => ?_
      refine q_g h rfl rfl (gT rfl) rfl rfl (fun e0 w X => v_move rfl) fun a h => ?_
      refine q_idxG h rfl (gT rfl) Tryd.underlying23 Tryd.sizeOf28 (fun e0 => (eg e0 rfl)) (fun e0 => rfl) hr51 (fun _ => rfl) ⟨4, [43], (errName ((n.tmod 7 + 7).tmod 7 + 1)).length⟩ (fun e0 => (by omega)) (fun e0 => rfl) rfl fun a v80 A80 h => ?_
      refine q_fieldG h rfl (gT rfl) (fun e0 => (eg e0 rfl)) (fun e0 => (A80 e0)) Tryd.underlying28 rfl Tryd.sizeOf3 rfl rfl rfl fun a v81 A81 h => ?_
      refine q_g h rfl rfl (gT rfl) rfl rfl (fun e0 w X => have A81 := AtG.ext A81 X; v_loadAt1 (eg e0 rfl) (A81 e0) Tryd.isAgg3 rfl) fun a h => ?_
      refine q_gb h rfl rfl (gT rfl) rfl rfl (fun e0 w X => v_eq (eg e0 rfl) rfl) fun b83 e83 a h => ?_
      refine q1b h rfl rfl rfl (fun w X => v_and rfl rfl) fun b84 e84 a h => ?_
      refine q1 h rfl rfl rfl (fun w X => v_move rfl) fun a h => ?_
      refine q_g h rfl rfl (gT rfl) rfl rfl (fun e0 w X => v_move rfl) fun a h => ?_
      refine q_idxG h rfl (gT rfl) Tryd.underlying23 Tryd.sizeOf28 (fun e0 => (eg e0 rfl)) (fun e0 => rfl) hr51 (fun _ => rfl) ⟨3, [65, 49], (errName ((n.tmod 7 + 7).tmod 7 + 1)).length + 1⟩ (fun e0 => (by omega)) (fun e0 => rfl) rfl fun a v87 A87 h => ?_
      refine q_fieldG h rfl (gT rfl) (fun e0 => (eg e0 rfl)) (fun e0 => (A87 e0)) Tryd.underlying28 rfl Tryd.sizeOf3 rfl rfl rfl fun a v88 A88 h => ?_
      refine q_g h rfl rfl (gT rfl) rfl rfl (fun e0 w X => have A88 := AtG.ext A88 X; v_loadAt1 (eg e0 rfl) (A88 e0) Tryd.isAgg3 rfl) fun a h => ?_
      refine q_gb h rfl rfl (gT rfl) rfl rfl (fun e0 w X => v_eq (eg e0 rfl) rfl) fun b90 e90 a h => ?_
      refine q1b h rfl rfl rfl (fun w X => v_and rfl rfl) fun b91 e91 a h => ?_
      refine q1 h rfl rfl rfl (fun w X => v_move rfl) fun a h => ?_
      refine q_g h rfl rfl (gT rfl) rfl rfl (fun e0 w X => v_move rfl) fun a h => ?_
      refine q_idxG h rfl (gT rfl) Tryd.underlying23 Tryd.sizeOf28 (fun e0 => (eg e0 rfl)) (fun e0 => rfl) hr51 (fun _ => rfl) ⟨3, [65, 49], (errName ((n.tmod 7 + 7).tmod 7 + 1)).length + 1⟩ (fun e0 => (by omega)) (fun e0 => rfl) rfl fun a v94 A94 h => ?_
      refine q_fieldG h rfl (gT rfl) (fun e0 => (eg e0 rfl)) (fun e0 => (A94 e0)) Tryd.underlying28 rfl Tryd.sizeOf9 rfl rfl rfl fun a v95 A95 h => ?_
      refine q_g h rfl rfl (gT rfl) rfl rfl (fun e0 w X => have A95 := AtG.ext A95 X; v_loadAt1 (eg e0 rfl) (A95 e0) Tryd.isAgg9 rfl) fun a h => ?_
      refine q_gb h rfl rfl (gT rfl) rfl rfl (fun e0 w X => v_seq (eg e0 rfl) rfl) fun b97 e97 a h => ?_
      refine q1b h rfl rfl rfl (fun w X => v_and rfl rfl) fun b98 e98 a h => ?_
      refine q1 h rfl rfl rfl (fun w X => v_assign rfl) fun a h => ?_
      refine qn ?_
      intro w X
      have H := H.ext X
      have hr51 := Reads.ext hr51 X
      have A64 := AtG.ext A64 X
      have A65 := AtG.ext A65 X
      have A71 := AtG.ext A71 X
      have A72 := AtG.ext A72 X
      have A80 := AtG.ext A80 X
      have A81 := AtG.ext A81 X
      have A87 := AtG.ext A87 X
      have A88 := AtG.ext A88 X
      have A94 := AtG.ext A94 X
      have A95 := AtG.ext A95 X
      have h := h.only [4] (l' := [(4, _)]) rfl
      clear A64
      clear A65
      clear A71
      clear A72
      clear A80
      clear A81
      clear A87
      clear A88
      clear A94
      clear A95
      refine c_ret (hret0 _ _ (out1 h rfl rfl ?_))
      refine ⟨?_, H.out⟩
      subst_vars
      simp

end Go.Proofs.YtdepoohfljaogaaDoor
