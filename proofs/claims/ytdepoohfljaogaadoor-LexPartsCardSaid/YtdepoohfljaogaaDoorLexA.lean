/- Walks of the functions of package lex. -/
import Derived.Test.YtdepoohfljaogaaDoorF
import Derived.Test.YtdepoohfljaogaaDoorLexPlain
import Derived.Test.YtdepoohfljaogaaDoorShelf
set_option linter.unusedSimpArgs false
set_option linter.unusedVariables false
set_option linter.unusedSectionVars false
namespace Go.Proofs.YtdepoohfljaogaaDoor
open Go.Stp Go.RowKit Go.LexP
theorem isWord_ok (c : Int) (w0 : World) : Calls Tryd.prog 11 [.int .u8 c].toArray w0 (Ret fun v w => v = .bool (isWord c) ∧ Ext w0 w) := by
  refine enter Tryd.func11 rfl rfl rfl fun Q a h hret0 hnor => ?_
  have H := Hp.start w0
  have h := h.only [0] (l' := [(0, _)]) rfl
  refine c_region fun K hK => ?_
  refine st1 h rfl rfl rfl (v_assign rfl) fun a h => ?_
  refine c_nil hK ?_
  refine c_region fun K hK => ?_
  refine st1 h rfl rfl rfl (v_move rfl) fun a h => ?_
  refine st1b h rfl rfl rfl (v_ge rfl rfl) fun b4 e4 a h => ?_
  refine st1 h rfl rfl rfl (v_move rfl) fun a h => ?_
  refine st_g h rfl rfl (gT rfl) rfl rfl (fun e0 => v_move rfl) fun a h => ?_
  refine st_gb h rfl rfl (gT rfl) rfl rfl (fun e0 => v_le (eg e0 rfl) rfl) fun b7 e7 a h => ?_
  refine st1b h rfl rfl rfl (v_and rfl rfl) fun b8 e8 a h => ?_
  refine st1 h rfl rfl rfl (v_move rfl) fun a h => ?_
  refine st_g h rfl rfl (gF rfl) rfl rfl (fun e0 => v_move rfl) fun a h => ?_
  refine st_gb h rfl rfl (gF rfl) rfl rfl (fun e0 => v_ge (eg e0 rfl) rfl) fun b11 e11 a h => ?_
  refine st_g h rfl rfl (gF rfl) rfl rfl (fun e0 => v_move (eg e0 rfl)) fun a h => ?_
  refine st_g h rfl rfl (ggT rfl) rfl rfl (fun e0 => v_move rfl) fun a h => ?_
  refine st_gb h rfl rfl (ggT rfl) rfl rfl (fun e0 => v_le (eg e0 rfl) rfl) fun b14 e14 a h => ?_
  refine st_gb h rfl rfl (gF rfl) rfl rfl (fun e0 => v_and (eg e0 rfl) (egn e0 rfl)) fun b15 e15 a h => ?_
  refine st1b h rfl rfl rfl (v_or rfl rfl) fun b16 e16 a h => ?_
  refine st1 h rfl rfl rfl (v_move rfl) fun a h => ?_
  refine st_g h rfl rfl (gF rfl) rfl rfl (fun e0 => v_move rfl) fun a h => ?_
  refine st_gb h rfl rfl (gF rfl) rfl rfl (fun e0 => v_eq (eg e0 rfl) rfl) fun b19 e19 a h => ?_
  refine st1b h rfl rfl rfl (v_or rfl rfl) fun b20 e20 a h => ?_
  refine st1 h rfl rfl rfl (v_move rfl) fun a h => ?_
  refine st_g h rfl rfl (gF rfl) rfl rfl (fun e0 => v_move rfl) fun a h => ?_
  refine st_gb h rfl rfl (gF rfl) rfl rfl (fun e0 => v_eq (eg e0 rfl) rfl) fun b23 e23 a h => ?_
  refine st1b h rfl rfl rfl (v_or rfl rfl) fun b24 e24 a h => ?_
  refine st1 h rfl rfl rfl (v_move rfl) fun a h => ?_
  refine st_g h rfl rfl (gF rfl) rfl rfl (fun e0 => v_move rfl) fun a h => ?_
  refine st_gb h rfl rfl (gF rfl) rfl rfl (fun e0 => v_eq (eg e0 rfl) rfl) fun b27 e27 a h => ?_
  refine st1b h rfl rfl rfl (v_or rfl rfl) fun b28 e28 a h => ?_
  refine st1 h rfl rfl rfl (v_assign rfl) fun a h => ?_
  refine c_nil hK ?_
  have h := h.only [2] (l' := [(2, _)]) rfl
  refine c_ret (hret0 _ _ (out1 h rfl rfl ?_))
  subst_vars
  exact ⟨rfl, H.out⟩

theorem isDig_ok (c : Int) (w0 : World) : Calls Tryd.prog 16 [.int .u8 c].toArray w0 (Ret fun v w => v = .bool (isDig c) ∧ Ext w0 w) := by
  refine enter Tryd.func16 rfl rfl rfl fun Q a h hret0 hnor => ?_
  have H := Hp.start w0
  have h := h.only [0] (l' := [(0, _)]) rfl
  refine c_region fun K hK => ?_
  refine st1 h rfl rfl rfl (v_assign rfl) fun a h => ?_
  refine c_nil hK ?_
  refine c_region fun K hK => ?_
  refine st1 h rfl rfl rfl (v_move rfl) fun a h => ?_
  refine st1b h rfl rfl rfl (v_ge rfl rfl) fun b4 e4 a h => ?_
  refine st1 h rfl rfl rfl (v_move rfl) fun a h => ?_
  refine st_g h rfl rfl (gT rfl) rfl rfl (fun e0 => v_move rfl) fun a h => ?_
  refine st_gb h rfl rfl (gT rfl) rfl rfl (fun e0 => v_le (eg e0 rfl) rfl) fun b7 e7 a h => ?_
  refine st1b h rfl rfl rfl (v_and rfl rfl) fun b8 e8 a h => ?_
  refine st1 h rfl rfl rfl (v_move rfl) fun a h => ?_
  refine st_g h rfl rfl (gF rfl) rfl rfl (fun e0 => v_move rfl) fun a h => ?_
  refine st_gb h rfl rfl (gF rfl) rfl rfl (fun e0 => v_eq (eg e0 rfl) rfl) fun b11 e11 a h => ?_
  refine st1b h rfl rfl rfl (v_or rfl rfl) fun b12 e12 a h => ?_
  refine st1 h rfl rfl rfl (v_assign rfl) fun a h => ?_
  refine c_nil hK ?_
  have h := h.only [2] (l' := [(2, _)]) rfl
  refine c_ret (hret0 _ _ (out1 h rfl rfl ?_))
  subst_vars
  exact ⟨rfl, H.out⟩

theorem run_ok (l : List UInt8) (p : Int → Bool) (f : Nat) (w0 : World) (hc : ∀ xs w, (callFunc f xs).run Tryd.prog w = .ok (.enter f xs) w) (hl : l.length ≤ 9223372036854775807) (hp : ∀ c w, Calls Tryd.prog f [.int .u8 c].toArray w (Ret fun v w' => v = .bool (p c) ∧ Ext w w')) : Calls Tryd.prog 15 [S l, .func (.func f) #[] #[]].toArray w0 (Ret fun v w => v = .int .i64 (runL p l) ∧ Ext w0 w) := by
  refine enter Tryd.func15 rfl rfl rfl fun Q a h hret0 hnor => ?_
  have H := Hp.start w0
  have h := h.only [0, 1] (l' := [(0, _), (1, _)]) rfl
  refine c_region fun K hK => ?_
  refine st1 h rfl rfl rfl (v_assign rfl) fun a h => ?_
  refine c_nil hK ?_
  refine c_seq _ (fun a w c => c) fun Q2 hN2 hO2 => ?_
  have hret2 := hO2.ret hret0
  refine c_region fun K hK => ?_
  refine st1 h rfl rfl rfl (v_move rfl) fun a h => ?_
  refine st1 h rfl rfl rfl (v_slen Tryd.underlying9 rfl) fun a h => ?_
  refine st1 h rfl rfl rfl (v_move rfl) fun a h => ?_
  refine c_nil hK ?_
  refine c_lblock fun Q4 hN4 hx0_4 hO4 => ?_
  have hret4 := hO4.ret hret2
  refine c_loopN (fun mu_ a w => ∃ i : Int, mu_ = (l.length - i).toNat ∧ ((0 ≤ i ∧ i ≤ l.length) ∧ ((l.take i.toNat).all (fun b => p b.toNat) = true)) ∧ Fr 21 [(0, S l), (1, .func (.func f) #[] #[]), (7, .int .i64 l.length), (8, .int .i64 i)] a ∧ Hp w0 [] w) _ ⟨0, rfl, ⟨by omega, by simp⟩, (h.only [0, 1, 7, 8] (l' := [(0, _), (1, _), (7, _), (8, _)]) rfl), H⟩ ?_
  rintro _ a w ⟨i, rfl, ⟨hi, hpre⟩, h, H⟩ Q5 hN5 hO5
  have hret5 := hO5.ret hret4
  have hx0_5 := hO5.exit (i := 0) rfl hx0_4
  refine c_region fun K hK => ?_
  refine st1b h rfl rfl rfl (v_lt rfl rfl) fun b9 e9 a h => ?_
  refine c_nil hK ?_
  refine c_seq _ (fun a w c => c) fun Q7 hN7 hO7 => ?_
  have hret7 := hO7.ret hret5
  have hx0_7 := hO7.exit (i := 0) rfl hx0_5
  refine c_cond h rfl (fun ec9 => ?_) (fun ec9 => ?_)
  · simp only [e9, Bool.and_eq_true, Bool.or_eq_true, Bool.and_eq_false_iff, Bool.or_eq_false_iff, decide_eq_true_eq, decide_eq_false_iff_not, Bool.not_eq_true', Bool.not_eq_false', Bool.not_true, Bool.not_false, eq_self] at ec9
    have ec := ec9
    refine c_skip ?_
    refine hN7 _ _ ?_
    refine c_block _ (fun a w c => c) fun Q8 hN8 hx1_8 hO8 => ?_
    have hret8 := hO8.ret hret5
    have hx0_8 := hO8.exit (i := 0) rfl hx0_5
    refine c_region fun K hK => ?_
    refine st1 h rfl rfl rfl (v_move rfl) fun a h => ?_
    refine st1 h rfl rfl rfl (v_assign rfl) fun a h => ?_
    refine c_nil hK ?_
    refine c_region fun K hK => ?_
    refine st1 h rfl rfl rfl (v_move rfl) fun a h => ?_
    refine st1 h rfl rfl rfl (v_move rfl) fun a h => ?_
    refine st1 h rfl rfl rfl (v_move rfl) fun a h => ?_
    refine st1 h rfl rfl rfl (v_sidx Tryd.underlying9 rfl rfl (by omega)) fun a h => ?_
    refine st2b (T := Ext) h rfl rfl rfl (d_callV [_] rfl rfl hc [_] rfl (hp _ _)) fun b15 e15 w X a h => ?_
    have H := H.ext X
    refine st1b h rfl rfl rfl (v_not rfl) fun b16 e16 a h => ?_
    refine c_nil hK ?_
    have h := h.only [0, 1, 5, 7, 8, 16] (l' := [(0, _), (1, _), (5, _), (7, _), (8, _), (16, _)]) rfl
    refine c_cond h rfl (fun ec16 => ?_) (fun ec16 => ?_)
    · simp only [e16, e15, e9, Bool.and_eq_true, Bool.or_eq_true, Bool.and_eq_false_iff, Bool.or_eq_false_iff, decide_eq_true_eq, decide_eq_false_iff_not, Bool.not_eq_true', Bool.not_eq_false', Bool.not_true, Bool.not_false, eq_self] at ec16
      have ec := ec16
      refine c_region fun K hK => ?_
      refine st1 h rfl rfl rfl (v_move rfl) fun a h => ?_
      refine st1 h rfl rfl rfl (v_assign rfl) fun a h => ?_
      refine c_nil hK ?_
      have h := h.only [4] (l' := [(4, _)]) rfl
      refine c_ret (hret8 _ _ (out1 h rfl rfl ?_))
      exact ⟨congrArg _ (run_stop l p i (by omega) hpre ec), H.out⟩
    · simp only [e16, e15, e9, Bool.and_eq_true, Bool.or_eq_true, Bool.and_eq_false_iff, Bool.or_eq_false_iff, decide_eq_true_eq, decide_eq_false_iff_not, Bool.not_eq_true', Bool.not_eq_false', Bool.not_true, Bool.not_false, eq_self] at ec16
      have ec := ec16
      refine c_skip ?_
      refine hN8 _ _ ?_
      refine c_lregion ?_
      refine st1 h rfl rfl rfl (v_add rfl rfl (wi (by omega))) fun a h => ?_
      refine st1 h rfl rfl rfl (v_move rfl) fun a h => ?_
      refine c_lnil ?_
      refine hN5 _ _ _ ?_ ⟨i + 1, rfl, ?_, (h.only [0, 1, 7, 8] (l' := [(0, _), (1, _), (7, _), (8, _)]) rfl), H⟩
      · omega
      · exact ⟨by omega, all_step l p i (by omega) hpre ec⟩
  · simp only [e9, Bool.and_eq_true, Bool.or_eq_true, Bool.and_eq_false_iff, Bool.or_eq_false_iff, decide_eq_true_eq, decide_eq_false_iff_not, Bool.not_eq_true', Bool.not_eq_false', Bool.not_true, Bool.not_false, eq_self] at ec9
    have ec := ec9
    refine c_exit ?_
    refine hx0_7 _ _ ?_
    refine hN2 _ _ ?_
    have h := h.only [0] (l' := [(0, _)]) rfl
    refine c_region fun K hK => ?_
    refine st1 h rfl rfl rfl (v_move rfl) fun a h => ?_
    refine st1 h rfl rfl rfl (v_slen Tryd.underlying9 rfl) fun a h => ?_
    refine st1 h rfl rfl rfl (v_assign rfl) fun a h => ?_
    refine c_nil hK ?_
    refine c_ret (hret0 _ _ (out1 h rfl rfl ?_))
    exact ⟨congrArg _ (run_end l p i (by omega) hpre), H.out⟩

theorem text_ok (l : List UInt8) (w0 : World) (hl : l.length ≤ 4611686018427387904) : Calls Tryd.prog 17 [S l].toArray w0 (Ret fun v w => v = .tuple #[S (txt l).1, .int .i64 (txt l).2] ∧ Ext w0 w) := by
  refine enter Tryd.func17 rfl rfl rfl fun Q a h hret0 hnor => ?_
  have H := Hp.start w0
  have h := h.only [0] (l' := [(0, _)]) rfl
  refine c_region fun K hK => ?_
  refine st1 h rfl rfl rfl (v_assign rfl) fun a h => ?_
  refine st1 h rfl rfl rfl (v_assign rfl) fun a h => ?_
  refine c_nil hK ?_
  refine c_scope 0 (fun mu_ a w => ∃ (i : Int) (o : List UInt8), mu_ = (l.length - i).toNat ∧ ((1 ≤ i ∧ i ≤ l.length + 1 ∧ (o.length : Int) ≤ i - 1) ∧ (txt l = txtFrom (l.drop i.toNat) o i)) ∧ Fr 42 [(0, S l), (4, S o), (5, .int .i64 i)] a ∧ Hp w0 [] w) rfl ?_ ?_
  · rintro _ a w ⟨i, o, rfl, ⟨hi, ht⟩, h, H⟩ Q2 hG2 hN2 hR2
    have hret2 : ∀ a w, Out _ _ _ a w → Q2 .ret a w := fun a w c => hR2 a w (hret0 a w c)
    refine c_seq _ (fun a w c => c) fun Q4 hN4 hO4 => ?_
    have hret4 := hO4.ret hret2
    have hG0_4 := hO4.goto hG2
    refine c_region fun K hK => ?_
    refine st1 h rfl rfl rfl (v_move rfl) fun a h => ?_
    refine st1 h rfl rfl rfl (v_move rfl) fun a h => ?_
    refine st1 h rfl rfl rfl (v_slen Tryd.underlying9 rfl) fun a h => ?_
    refine st1b h rfl rfl rfl (v_ge rfl rfl) fun b9 e9 a h => ?_
    refine c_nil hK ?_
    refine c_cond h rfl (fun ec9 => ?_) (fun ec9 => ?_)
    · simp only [e9, Bool.and_eq_true, Bool.or_eq_true, Bool.and_eq_false_iff, Bool.or_eq_false_iff, decide_eq_true_eq, decide_eq_false_iff_not, Bool.not_eq_true', Bool.not_eq_false', Bool.not_true, Bool.not_false, eq_self] at ec9
      have ec := ec9
      refine c_region fun K hK => ?_
      refine st1 h rfl rfl rfl (v_assign rfl) fun a h => ?_
      refine st1 h rfl rfl rfl (v_assign rfl) fun a h => ?_
      refine c_nil hK ?_
      have h := h.only [2, 3] (l' := [(2, _), (3, _)]) rfl
      refine c_ret (hret4 _ _ (out2 h rfl rfl rfl ?_))
      exact ⟨by rw [txt_none l i o (by omega)] at ht; simp only [ht], H.out⟩
    · simp only [e9, Bool.and_eq_true, Bool.or_eq_true, Bool.and_eq_false_iff, Bool.or_eq_false_iff, decide_eq_true_eq, decide_eq_false_iff_not, Bool.not_eq_true', Bool.not_eq_false', Bool.not_true, Bool.not_false, eq_self] at ec9
      have ec := ec9
      refine c_skip ?_
      refine hN4 _ _ ?_
      have h := h.only [0, 4, 5] (l' := [(0, _), (4, _), (5, _)]) rfl
      refine c_seq _ (fun a w c => c) fun Q7 hN7 hO7 => ?_
      have hret7 := hO7.ret hret2
      have hG0_7 := hO7.goto hG2
      refine c_region fun K hK => ?_
      refine st1 h rfl rfl rfl (v_move rfl) fun a h => ?_
      refine st1 h rfl rfl rfl (v_move rfl) fun a h => ?_
      refine st1 h rfl rfl rfl (v_sidx Tryd.underlying9 rfl rfl (by omega)) fun a h => ?_
      refine st1b h rfl rfl rfl (v_ne rfl rfl) fun b13 e13 a h => ?_
      refine c_nil hK ?_
      refine c_cond h rfl (fun ec13 => ?_) (fun ec13 => ?_)
      · simp only [e13, e9, Bool.and_eq_true, Bool.or_eq_true, Bool.and_eq_false_iff, Bool.or_eq_false_iff, decide_eq_true_eq, decide_eq_false_iff_not, Bool.not_eq_true', Bool.not_eq_false', Bool.not_true, Bool.not_false, eq_self] at ec13
        have ec := ec13
        refine c_region fun K hK => ?_
        refine st1 h rfl rfl rfl (v_move rfl) fun a h => ?_
        refine st1 h rfl rfl rfl (v_move rfl) fun a h => ?_
        refine st1 h rfl rfl rfl (v_move rfl) fun a h => ?_
        refine st1 h rfl rfl rfl (v_move rfl) fun a h => ?_
        refine st1 h rfl rfl rfl (v_add rfl rfl (wi (by omega))) fun a h => ?_
        refine st1 h rfl rfl rfl (v_scut Tryd.underlying9 rfl rfl rfl (by omega)) fun a h => ?_
        refine st1 h rfl rfl rfl (v_sadd rfl rfl (by first | omega | (simp only [cutS_length, List.length_append, List.length_cons, List.length_nil]; omega))) fun a h => ?_
        refine st1 h rfl rfl rfl (v_assign rfl) fun a h => ?_
        refine c_nil hK ?_
        have h := h.only [0, 4, 5] (l' := [(0, _), (4, _), (5, _)]) rfl
        refine c_region fun K hK => ?_
        refine st1 h rfl rfl rfl (v_move rfl) fun a h => ?_
        refine st1 h rfl rfl rfl (v_add rfl rfl (wi (by omega))) fun a h => ?_
        refine st1 h rfl rfl rfl (v_assign rfl) fun a h => ?_
        refine c_nil hK ?_
        refine c_goto ?_
        refine hG0_7 _ _ ⟨_, ?_, i + 1, _, rfl, ?_, (h.only [0, 4, 5] (l' := [(0, _), (4, _), (5, _)]) rfl), H⟩
        · omega
        · refine ⟨?_, ?_⟩
          · rw [List.length_append, cutS_one l i (by omega)]; simp; omega
          · rw [ht, cutS_one l i (by omega), txt_other l i o (by omega) (by simpa using ec)]
      · simp only [e13, e9, Bool.and_eq_true, Bool.or_eq_true, Bool.and_eq_false_iff, Bool.or_eq_false_iff, decide_eq_true_eq, decide_eq_false_iff_not, Bool.not_eq_true', Bool.not_eq_false', Bool.not_true, Bool.not_false, eq_self] at ec13
        have ec := ec13
        refine c_skip ?_
        refine hN7 _ _ ?_
        have h := h.only [0, 4, 5] (l' := [(0, _), (4, _), (5, _)]) rfl
        refine c_seq _ (fun a w c => c) fun Q11 hN11 hO11 => ?_
        have hret11 := hO11.ret hret2
        have hG0_11 := hO11.goto hG2
        refine c_region fun K hK => ?_
        refine st1 h rfl rfl rfl (v_move rfl) fun a h => ?_
        refine st1 h rfl rfl rfl (v_add rfl rfl (wi (by omega))) fun a h => ?_
        refine st1 h rfl rfl rfl (v_move rfl) fun a h => ?_
        refine st1 h rfl rfl rfl (v_slen Tryd.underlying9 rfl) fun a h => ?_
        refine st1b h rfl rfl rfl (v_lt rfl rfl) fun b27 e27 a h => ?_
        refine st1 h rfl rfl rfl (v_move rfl) fun a h => ?_
        refine st_g h rfl rfl (gT rfl) rfl rfl (fun e0 => v_move rfl) fun a h => ?_
        refine st_g h rfl rfl (gT rfl) rfl rfl (fun e0 => v_move rfl) fun a h => ?_
        refine st_g h rfl rfl (gT rfl) rfl rfl (fun e0 => v_add (eg e0 rfl) rfl (wi (by first | omega | (simp only [e27, e13, e9, Bool.and_eq_true, Bool.or_eq_true, Bool.and_eq_false_iff, Bool.or_eq_false_iff, decide_eq_true_eq, decide_eq_false_iff_not, Bool.not_eq_true', Bool.not_eq_false', Bool.not_true, Bool.not_false, eq_self] at e0; omega)))) fun a h => ?_
        refine st_g h rfl rfl (gT rfl) rfl rfl (fun e0 => v_sidx Tryd.underlying9 (eg e0 rfl) (eg e0 rfl) (by first | omega | (simp only [e27, e13, e9, Bool.and_eq_true, Bool.or_eq_true, Bool.and_eq_false_iff, Bool.or_eq_false_iff, decide_eq_true_eq, decide_eq_false_iff_not, Bool.not_eq_true', Bool.not_eq_false', Bool.not_true, Bool.not_false, eq_self] at e0; omega))) fun a h => ?_
        refine st_gb h rfl rfl (gT rfl) rfl rfl (fun e0 => v_eq (eg e0 rfl) rfl) fun b33 e33 a h => ?_
        refine st1b h rfl rfl rfl (v_and rfl rfl) fun b34 e34 a h => ?_
        refine c_nil hK ?_
        have h := h.only [0, 4, 5, 34] (l' := [(0, _), (4, _), (5, _), (34, _)]) rfl
        refine c_cond h rfl (fun ec34 => ?_) (fun ec34 => ?_)
        · simp only [e34, e33, e27, e13, e9, Bool.and_eq_true, Bool.or_eq_true, Bool.and_eq_false_iff, Bool.or_eq_false_iff, decide_eq_true_eq, decide_eq_false_iff_not, Bool.not_eq_true', Bool.not_eq_false', Bool.not_true, Bool.not_false, eq_self] at ec34
          have ec := ec34
          refine c_region fun K hK => ?_
          refine st1 h rfl rfl rfl (v_move rfl) fun a h => ?_
          refine st1 h rfl rfl rfl (v_sadd rfl rfl (by first | omega | (simp only [cutS_length, List.length_append, List.length_cons, List.length_nil]; omega))) fun a h => ?_
          refine st1 h rfl rfl rfl (v_assign rfl) fun a h => ?_
          refine c_nil hK ?_
          refine c_region fun K hK => ?_
          refine st1 h rfl rfl rfl (v_move rfl) fun a h => ?_
          refine st1 h rfl rfl rfl (v_add rfl rfl (wi (by omega))) fun a h => ?_
          refine st1 h rfl rfl rfl (v_assign rfl) fun a h => ?_
          refine c_nil hK ?_
          have h := h.only [0, 4, 5] (l' := [(0, _), (4, _), (5, _)]) rfl
          refine c_goto ?_
          refine hG0_11 _ _ ⟨_, ?_, i + 2, _, rfl, ?_, (h.only [0, 4, 5] (l' := [(0, _), (4, _), (5, _)]) rfl), H⟩
          · omega
          · refine ⟨?_, ?_⟩
            · simp; omega
            · rw [ht, txt_two l i o (by omega) (by omega) ec.2]
        · simp only [e34, e33, e27, e13, e9, Bool.and_eq_true, Bool.or_eq_true, Bool.and_eq_false_iff, Bool.or_eq_false_iff, decide_eq_true_eq, decide_eq_false_iff_not, Bool.not_eq_true', Bool.not_eq_false', Bool.not_true, Bool.not_false, eq_self] at ec34
          have ec := ec34
          refine c_skip ?_
          refine hN11 _ _ ?_
          refine c_region fun K hK => ?_
          refine st1 h rfl rfl rfl (v_move rfl) fun a h => ?_
          refine st1 h rfl rfl rfl (v_move rfl) fun a h => ?_
          refine st1 h rfl rfl rfl (v_add rfl rfl (wi (by omega))) fun a h => ?_
          refine st1 h rfl rfl rfl (v_assign rfl) fun a h => ?_
          refine st1 h rfl rfl rfl (v_assign rfl) fun a h => ?_
          refine c_nil hK ?_
          have h := h.only [2, 3] (l' := [(2, _), (3, _)]) rfl
          refine c_ret (hret2 _ _ (out2 h rfl rfl rfl ?_))
          exact ⟨by rw [txt_end l i o (by omega) (by omega) (by omega)] at ht; simp only [ht], H.out⟩
  · intro Q3 hL3 hN3 hR3
    refine c_region fun K hK => ?_
    refine st1 h rfl rfl rfl (v_assign rfl) fun a h => ?_
    refine c_nil hK ?_
    refine c_region fun K hK => ?_
    refine st1 h rfl rfl rfl (v_assign rfl) fun a h => ?_
    refine c_nil hK ?_
    refine c_label ?_
    exact hL3 _ _ _ ⟨1, [], rfl, ⟨by simp; omega, rfl⟩, (h.only [0, 4, 5] (l' := [(0, _), (4, _), (5, _)]) rfl), H⟩

end Go.Proofs.YtdepoohfljaogaaDoor
