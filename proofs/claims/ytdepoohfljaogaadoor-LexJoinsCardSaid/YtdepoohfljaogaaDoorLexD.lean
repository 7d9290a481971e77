/- Walks of the functions of package lex, all tokens. -/
import Derived.Test.YtdepoohfljaogaaDoorF
import Derived.Test.YtdepoohfljaogaaDoorLexPlain
import Derived.Test.YtdepoohfljaogaaDoorLexC
import Derived.Test.YtdepoohfljaogaaDoorShelf
set_option linter.unusedSimpArgs false
set_option linter.unusedVariables false
set_option linter.unusedSectionVars false
namespace Go.Proofs.YtdepoohfljaogaaDoor
open Go.Stp Go.RowKit Go.LexP
theorem all_ok (l : List UInt8) (w0 : World) (hG : GF w0) : Calls Tryd.prog 9 [S l].toArray w0 (Ret fun v w => AllOut l v w ∧ Ext w0 w) := by
  refine enter Tryd.func9 rfl rfl rfl fun Q a h hret0 hnor => ?_
  have H := Hp.start w0
  have h := h.only [0] (l' := [(0, _)]) rfl
  refine c_region fun K hK => ?_
  refine st1 h rfl rfl rfl (v_assign rfl) fun a h => ?_
  refine st1 h rfl rfl rfl (v_assign rfl) fun a h => ?_
  refine st1 h rfl rfl rfl (v_assign rfl) fun a h => ?_
  refine c_nil hK ?_
  refine c_seq _ (fun a w c => c) fun Q2 hN2 hO2 => ?_
  have hret2 := hO2.ret hret0
  refine c_region fun K hK => ?_
  refine st1 h rfl rfl rfl (v_move rfl) fun a h => ?_
  refine st1 h rfl rfl rfl (v_slen Tryd.underlying9 rfl) fun a h => ?_
  refine st1b h rfl rfl rfl (v_gt rfl rfl) fun b11 e11 a h => ?_
  refine c_nil hK ?_
  have h := h.only [0, 11] (l' := [(0, _), (11, _)]) rfl
  refine c_cond h rfl (fun ec11 => ?_) (fun ec11 => ?_)
  · simp only [e11, Bool.and_eq_true, Bool.or_eq_true, Bool.and_eq_false_iff, Bool.or_eq_false_iff, decide_eq_true_eq, decide_eq_false_iff_not, Bool.not_eq_true', Bool.not_eq_false', Bool.not_true, Bool.not_false, eq_self] at ec11
    have ec := ec11
    refine c_region fun K hK => ?_
    refine st1 h rfl rfl rfl (v_assign rfl) fun a h => ?_
    refine st1 h rfl rfl rfl (v_assign rfl) fun a h => ?_
    refine st1 h rfl rfl rfl (v_assign rfl) fun a h => ?_
    refine c_nil hK ?_
    refine c_ret (hret2 _ _ (out3 h rfl rfl rfl rfl ?_))
    exact ⟨.inl ⟨by omega, rfl⟩, H.out⟩
  · simp only [e11, Bool.and_eq_true, Bool.or_eq_true, Bool.and_eq_false_iff, Bool.or_eq_false_iff, decide_eq_true_eq, decide_eq_false_iff_not, Bool.not_eq_true', Bool.not_eq_false', Bool.not_true, Bool.not_false, eq_self] at ec11
    have ec := ec11
    refine c_skip ?_
    refine hN2 _ _ ?_
    refine c_region fun K hK => ?_
    refine st1 h rfl rfl rfl (v_assign rfl) fun a h => ?_
    have H := H.pushNil 28 3
    refine c_nil hK ?_
    refine c_seq _ (fun a w c => c) fun Q6 hN6 hO6 => ?_
    have hret6 := hO6.ret hret0
    refine c_region fun K hK => ?_
    refine st1 h rfl rfl rfl (v_assign rfl) fun a h => ?_
    refine c_nil hK ?_
    refine c_lblock fun Q8 hN8 hx0_8 hO8 => ?_
    have hret8 := hO8.ret hret6
    refine c_loopN (fun mu_ a w => ∃ (i : Int) (ts : List Tok) (sv : Value), mu_ = (l.length - i).toNat ∧ ((0 ≤ i ∧ i ≤ l.length) ∧ ((ts.length : Int) ≤ i) ∧ (∀ ts', Lexes (l.drop i.toNat) i ts' → Lexes l 0 (ts ++ ts')) ∧ (∀ p, Fails (l.drop i.toNat) i p → Fails l 0 p)) ∧ Fr 42 [(0, S l), (5, sv), (6, .int .i64 i)] a ∧ Hp w0 [.row 28 3 sv ts.length (ts.flatMap tokE)] w) _ ⟨0, [], _, rfl, ⟨by omega, by simp, fun ts' h' => h', fun p h' => h'⟩, (h.only [0, 5, 6] (l' := [(0, _), (5, _), (6, _)]) rfl), H⟩ ?_
    rintro _ a w ⟨i, ts, sv, rfl, ⟨hi, hts, hL, hF⟩, h, H⟩ Q9 hN9 hO9
    have hret9 := hO9.ret hret8
    have hx0_9 := hO9.exit (i := 0) rfl hx0_8
    refine c_seq _ (fun a w c => c) fun Q10 hN10 hO10 => ?_
    have hret10 := hO10.ret hret9
    have hx0_10 := hO10.exit (i := 0) rfl hx0_9
    refine c_region fun K hK => ?_
    refine st1 h rfl rfl rfl (v_move rfl) fun a h => ?_
    refine st1 h rfl rfl rfl (v_move rfl) fun a h => ?_
    refine st1 h rfl rfl rfl (v_slen Tryd.underlying9 rfl) fun a h => ?_
    refine st1b h rfl rfl rfl (v_lt rfl rfl) fun b15 e15 a h => ?_
    refine c_nil hK ?_
    refine c_cond h rfl (fun ec15 => ?_) (fun ec15 => ?_)
    · simp only [e15, Bool.and_eq_true, Bool.or_eq_true, Bool.and_eq_false_iff, Bool.or_eq_false_iff, decide_eq_true_eq, decide_eq_false_iff_not, Bool.not_eq_true', Bool.not_eq_false', Bool.not_true, Bool.not_false, eq_self] at ec15
      have ec := ec15
      refine c_skip ?_
      refine hN10 _ _ ?_
      have h := h.only [0, 5, 6] (l' := [(0, _), (5, _), (6, _)]) rfl
      refine c_lblock fun Q12 hN12 hx1_12 hO12 => ?_
      have hret12 := hO12.ret hret9
      have hx0_12 := hO12.exit (i := 0) rfl hx0_9
      refine c_seq _ (fun a w c => c) fun Q13 hN13 hO13 => ?_
      have hret13 := hO13.ret hret12
      have hx0_13 := hO13.exit (i := 0) rfl hx0_12
      have hx1_13 := hO13.exit (i := 1) rfl hx1_12
      refine c_region fun K hK => ?_
      refine st1 h rfl rfl rfl (v_move rfl) fun a h => ?_
      refine st1 h rfl rfl rfl (v_move rfl) fun a h => ?_
      refine st1 h rfl rfl rfl (v_sidx Tryd.underlying9 rfl rfl (by omega)) fun a h => ?_
      refine st1b h rfl rfl rfl (v_eq rfl rfl) fun b19 e19 a h => ?_
      refine c_nil hK ?_
      refine c_cond h rfl (fun ec19 => ?_) (fun ec19 => ?_)
      · simp only [e19, e15, Bool.and_eq_true, Bool.or_eq_true, Bool.and_eq_false_iff, Bool.or_eq_false_iff, decide_eq_true_eq, decide_eq_false_iff_not, Bool.not_eq_true', Bool.not_eq_false', Bool.not_true, Bool.not_false, eq_self] at ec19
        have ec := ec19
        refine c_region fun K hK => ?_
        refine st1 h rfl rfl rfl (v_move rfl) fun a h => ?_
        refine st1 h rfl rfl rfl (v_add rfl rfl (wi (by omega))) fun a h => ?_
        refine st1 h rfl rfl rfl (v_assign rfl) fun a h => ?_
        refine c_nil hK ?_
        have h := h.only [0, 5, 6] (l' := [(0, _), (5, _), (6, _)]) rfl
        refine c_exit ?_
        refine hx1_13 _ _ ?_
        refine hN9 _ _ _ ?_ ⟨i + 1, ts, sv, rfl, ?_, (h.only [0, 5, 6] (l' := [(0, _), (5, _), (6, _)]) rfl), H⟩
        · omega
        · refine ⟨by omega, by omega, fun ts' h' => hL ts' ?_, fun p h' => hF p ?_⟩
          · rw [lex_blank (by omega) ec19]; exact .blank _ _ _ h'
          · rw [lex_blank (by omega) ec19]; exact .blank _ _ _ h'
      · simp only [e19, e15, Bool.and_eq_true, Bool.or_eq_true, Bool.and_eq_false_iff, Bool.or_eq_false_iff, decide_eq_true_eq, decide_eq_false_iff_not, Bool.not_eq_true', Bool.not_eq_false', Bool.not_true, Bool.not_false, eq_self] at ec19
        have ec := ec19
        refine c_skip ?_
        refine hN13 _ _ ?_
        have h := h.only [0, 5, 6] (l' := [(0, _), (5, _), (6, _)]) rfl
        refine c_region fun K hK => ?_
        refine st1 h rfl rfl rfl (v_move rfl) fun a h => ?_
        refine st1 h rfl rfl rfl (v_move rfl) fun a h => ?_
        refine st1 h rfl rfl rfl (v_scutLo Tryd.underlying9 rfl rfl (by omega)) fun a h => ?_
        rw [cutS_drop l i] at h
        have hne : l.drop i.toNat ≠ [] := by intro e; have := congrArg List.length e; simp at this; omega
        have hob := one_bd _ hne
        have hdl : (l.drop i.toNat).length = l.length - i.toNat := by simp
        refine st2v (T := Ext) h rfl rfl rfl (d_call [_] rfl Tryd.call13 (one_ok (l.drop i.toNat) _ (by simp; omega) (by simp; omega) (GF.ext hG H.out))) fun w X a h => ?_
        have H := H.ext X
        refine st1 h rfl rfl rfl (v_move rfl) fun a h => ?_
        refine st1 h rfl rfl rfl (v_extract rfl rfl) fun a h => ?_
        refine st1 h rfl rfl rfl (v_extract rfl rfl) fun a h => ?_
        refine st_alloc h H Tryd.zeroValue28 [_, _, _] rfl rfl fun a p7 w x7 X H h => ?_
        refine st_store h H 1 rfl rfl rfl Tryd.sizeOf28 [_, _, _] rfl rfl rfl (by simp) [_, _, _] rfl (hl' := [_, _]) rfl fun w H hz hs => ?_
        refine st1 h rfl rfl rfl (v_assign rfl) fun a h => ?_
        refine c_nil hK ?_
        have h := h.only [0, 5, 6, 7, 8] (l' := [(0, _), (5, _), (6, _), (7, _), (8, _)]) rfl
        refine c_seq _ (fun a w c => c) fun Q17 hN17 hO17 => ?_
        have hret17 := hO17.ret hret12
        have hx0_17 := hO17.exit (i := 0) rfl hx0_12
        have hx1_17 := hO17.exit (i := 1) rfl hx1_12
        refine c_region fun K hK => ?_
        refine st1 h rfl rfl rfl (v_move rfl) fun a h => ?_
        refine st1b h rfl rfl rfl (v_eq rfl rfl) fun b30 e30 a h => ?_
        refine c_nil hK ?_
        refine c_cond h rfl (fun ec30 => ?_) (fun ec30 => ?_)
        · simp only [e30, e19, e15, Bool.and_eq_true, Bool.or_eq_true, Bool.and_eq_false_iff, Bool.or_eq_false_iff, decide_eq_true_eq, decide_eq_false_iff_not, Bool.not_eq_true', Bool.not_eq_false', Bool.not_true, Bool.not_false, eq_self] at ec30
          have ec := ec30
          refine c_region fun K hK => ?_
          refine st1 h rfl rfl rfl (v_move rfl) fun a h => ?_
          refine st1 h rfl rfl rfl (v_assign rfl) fun a h => ?_
          refine st1 h rfl rfl rfl (v_assign rfl) fun a h => ?_
          refine st1 h rfl rfl rfl (v_assign rfl) fun a h => ?_
          refine c_nil hK ?_
          have h := h.only [2, 3, 4] (l' := [(2, _), (3, _), (4, _)]) rfl
          refine c_ret (hret17 _ _ (out3 h rfl rfl rfl rfl ?_))
          refine ⟨.inr (.inr ⟨by omega, i, hF i (.here _ _ hne (by rw [bt_drop l i (by omega)]; exact ec19) ec30), rfl⟩), H.out⟩
        · simp only [e30, e19, e15, Bool.and_eq_true, Bool.or_eq_true, Bool.and_eq_false_iff, Bool.or_eq_false_iff, decide_eq_true_eq, decide_eq_false_iff_not, Bool.not_eq_true', Bool.not_eq_false', Bool.not_true, Bool.not_false, eq_self] at ec30
          have ec := ec30
          refine c_skip ?_
          refine hN17 _ _ ?_
          refine c_region fun K hK => ?_
          refine st1 h rfl rfl rfl (v_move rfl) fun a h => ?_
          refine st1 h rfl rfl rfl (v_fieldAddr rfl Tryd.underlying28 rfl Tryd.sizeOf3 rfl rfl) fun a h => ?_
          refine st_store h H 1 rfl rfl rfl Tryd.sizeOf3 [_] rfl rfl rfl (by simp) [_, _, _] rfl (hl' := [_, _]) rfl fun w H hz hs => ?_
          refine c_nil hK ?_
          have h := h.only [0, 5, 6, 7, 8] (l' := [(0, _), (5, _), (6, _), (7, _), (8, _)]) rfl
          refine c_region fun K hK => ?_
          refine st1 h rfl rfl rfl (v_move rfl) fun a h => ?_
          refine st1 h rfl rfl rfl (v_loadA [_, _, _] rfl Tryd.isAgg28 Tryd.sizeOf28 (H.get 1 rfl) rfl rfl) fun a h => ?_
          refine st_slice1 h H Tryd.underlying23 Tryd.sizeOf28 Tryd.zeroValue28 rfl rfl rfl [_, _, _] rfl rfl rfl fun a p36 w x36 X H h => ?_
          refine st_append (news := [_, _, _]) h H 0 rfl Tryd.underlying23 app28 rfl rfl rfl (H.get 2 rfl) rfl rfl (allOne_mem rfl) (by omega) (by omega) rfl fun a v37 w H hs h => ?_
          have H : Hp w0 [_, _, _] w := H
          refine st1 h rfl rfl rfl (v_assign rfl) fun a h => ?_
          refine c_nil hK ?_
          have h := h.only [0, 5, 6, 8] (l' := [(0, _), (5, _), (6, _), (8, _)]) rfl
          refine c_lregion ?_
          refine st1 h rfl rfl rfl (v_move rfl) fun a h => ?_
          refine st1 h rfl rfl rfl (v_move rfl) fun a h => ?_
          refine st1 h rfl rfl rfl (v_add rfl rfl (wi (by omega))) fun a h => ?_
          refine st1 h rfl rfl rfl (v_assign rfl) fun a h => ?_
          refine c_lnil ?_
          refine hN12 _ _ ?_
          refine hN9 _ _ _ ?_ ⟨i + (one (l.drop i.toNat)).2.2, ts ++ [⟨(one (l.drop i.toNat)).1, (one (l.drop i.toNat)).2.1, i⟩], v37, rfl, ?_, (h.only [0, 5, 6] (l' := [(0, _), (5, _), (6, _)]) rfl), (by have H2 := H.keepN 1 (hl' := [_]) rfl; simpa [List.flatMap_append, tokE] using H2)⟩
          · omega
          · have e1 : (l.drop i.toNat).drop (one (l.drop i.toNat)).2.2.toNat = l.drop (i + (one (l.drop i.toNat)).2.2).toNat := by
              rw [List.drop_drop]; congr 1; omega
            refine ⟨by omega, by simp; omega, fun ts' h' => ?_, fun p h' => hF p ?_⟩
            · rw [List.append_assoc]; exact hL _ (.tok _ _ _ hne (by rw [bt_drop l i (by omega)]; exact ec19) ec30 (by rw [e1]; exact h'))
            · exact .tok _ _ _ hne (by rw [bt_drop l i (by omega)]; exact ec19) ec30 (by rw [e1]; exact h')
    · simp only [e15, Bool.and_eq_true, Bool.or_eq_true, Bool.and_eq_false_iff, Bool.or_eq_false_iff, decide_eq_true_eq, decide_eq_false_iff_not, Bool.not_eq_true', Bool.not_eq_false', Bool.not_true, Bool.not_false, eq_self] at ec15
      have ec := ec15
      refine c_exit ?_
      refine hx0_10 _ _ ?_
      refine hN6 _ _ ?_
      have h := h.only [5] (l' := [(5, _)]) rfl
      refine c_region fun K hK => ?_
      refine st1 h rfl rfl rfl (v_move rfl) fun a h => ?_
      refine st1 h rfl rfl rfl (v_assign rfl) fun a h => ?_
      refine st1 h rfl rfl rfl (v_assign rfl) fun a h => ?_
      refine st1 h rfl rfl rfl (v_assign rfl) fun a h => ?_
      refine c_nil hK ?_
      refine c_ret (hret0 _ _ (out3 h rfl rfl rfl rfl ?_))
      have e0 : l.drop i.toNat = [] := List.drop_eq_nil_of_le (by omega)
      have hL0 := hL [] (by rw [e0]; exact .nil _)
      rw [List.append_nil] at hL0
      exact ⟨.inr (.inl ⟨by omega, ts, sv, hL0, rfl, Reads.of_row (H.getRow 0 rfl) rfl⟩), H.out⟩

end Go.Proofs.YtdepoohfljaogaaDoor
