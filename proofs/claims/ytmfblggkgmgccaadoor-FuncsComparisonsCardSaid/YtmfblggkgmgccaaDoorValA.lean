/- Walks of the functions of package value. -/
import Derived.Test.YtmfblggkgmgccaaDoorF
import Derived.Test.YtmfblggkgmgccaaDoorValPlain
import Derived.Test.YtmfblggkgmgccaaDoorShelf
set_option linter.unusedSimpArgs false
set_option linter.unusedVariables false
set_option linter.unusedSectionVars false
namespace Go.Proofs.YtmfblggkgmgccaaDoor
open Go.Stp Go.RowKit Go.ValP
theorem num_ok (n : Int) (w0 : World) : Calls Tryd.prog 21 [.int .i64 n].toArray w0 (Ret fun v w => v = vV (numV n) ∧ Ext w0 w) := by
  refine enter Tryd.func21 rfl rfl rfl fun Q a h hret0 hnor => ?_
  have H := Hp.start w0
  have h := h.only [0] (l' := [(0, _)]) rfl
  refine c_region fun K hK => ?_
  refine st_alloc h H Tryd.zeroValue23 [_, _, _] rfl rfl fun a p2 w x2 X H h => ?_
  refine c_nil hK ?_
  refine c_region fun K hK => ?_
  refine st1 h rfl rfl rfl (v_move rfl) fun a h => ?_
  refine st1 h rfl rfl rfl (v_build bld23 [_, _] [_, _, _] rfl rfl) fun a h => ?_
  refine st_store h H 0 rfl rfl rfl Tryd.sizeOf23 [_, _, _] rfl rfl rfl (by simp) [_, _, _] rfl (hl' := [_]) rfl fun w H hz hs => ?_
  refine c_nil hK ?_
  refine c_ret (hret0 _ _ (out1 h rfl ⟨_, rfl, run_loadVar_agg (vs := [_, _, _]) Tryd.isAgg23 Tryd.sizeOf23 (H.get 0 rfl) rfl rfl⟩ ?_))
  exact ⟨rfl, H.out⟩

theorem fail_ok (c : Int) (w0 : World) : Calls Tryd.prog 14 [.int .i64 c].toArray w0 (Ret fun v w => v = vV (failV c) ∧ Ext w0 w) := by
  refine enter Tryd.func14 rfl rfl rfl fun Q a h hret0 hnor => ?_
  have H := Hp.start w0
  have h := h.only [0] (l' := [(0, _)]) rfl
  refine c_region fun K hK => ?_
  refine st_alloc h H Tryd.zeroValue23 [_, _, _] rfl rfl fun a p2 w x2 X H h => ?_
  refine c_nil hK ?_
  refine c_region fun K hK => ?_
  refine st1 h rfl rfl rfl (v_move rfl) fun a h => ?_
  refine st1 h rfl rfl rfl (v_build bld23 [_, _] [_, _, _] rfl rfl) fun a h => ?_
  refine st_store h H 0 rfl rfl rfl Tryd.sizeOf23 [_, _, _] rfl rfl rfl (by simp) [_, _, _] rfl (hl' := [_]) rfl fun w H hz hs => ?_
  refine c_nil hK ?_
  refine c_ret (hret0 _ _ (out1 h rfl ⟨_, rfl, run_loadVar_agg (vs := [_, _, _]) Tryd.isAgg23 Tryd.sizeOf23 (H.get 0 rfl) rfl rfl⟩ ?_))
  exact ⟨rfl, H.out⟩

theorem bool_ok (b : Bool) (w0 : World) : Calls Tryd.prog 9 [.bool b].toArray w0 (Ret fun v w => v = vV (boolV b) ∧ Ext w0 w) := by
  refine enter Tryd.func9 rfl rfl rfl fun Q a h hret0 hnor => ?_
  have H := Hp.start w0
  have h := h.only [0] (l' := [(0, _)]) rfl
  refine c_region fun K hK => ?_
  refine st_alloc h H Tryd.zeroValue23 [_, _, _] rfl rfl fun a p2 w x2 X H h => ?_
  refine c_nil hK ?_
  refine c_region fun K hK => ?_
  refine st1 h rfl rfl rfl (v_build bld23 [_] [_, _, _] rfl rfl) fun a h => ?_
  refine st_alloc h H Tryd.zeroValue23 [_, _, _] rfl rfl fun a p3 w x3 X H h => ?_
  refine st_store h H 1 rfl rfl rfl Tryd.sizeOf23 [_, _, _] rfl rfl rfl (by simp) [_, _, _] rfl (hl' := [_, _]) rfl fun w H hz hs => ?_
  refine c_nil hK ?_
  refine c_seq _ (fun a w c => c) fun Q3 hN3 hO3 => ?_
  have hret3 := hO3.ret hret0
  refine c_region fun K hK => ?_
  refine st1 h rfl rfl rfl (v_move rfl) fun a h => ?_
  refine c_nil hK ?_
  refine c_cond h rfl (fun ec5 => ?_) (fun ec5 => ?_)
  · have ec := ec5
    refine c_lregion ?_
    refine st1 h rfl rfl rfl (v_fieldAddr rfl Tryd.underlying23 rfl Tryd.sizeOf2 rfl rfl) fun a h => ?_
    refine st_store h H 1 rfl rfl rfl Tryd.sizeOf2 [_] rfl rfl rfl (by simp) [_, _, _] rfl (hl' := [_, _]) rfl fun w H hz hs => ?_
    refine c_lnil ?_
    refine hN3 _ _ ?_
    have h := h.only [2, 3] (l' := [(2, _), (3, _)]) rfl
    refine c_region fun K hK => ?_
    refine st1 h rfl rfl rfl (v_loadA [_, _, _] rfl Tryd.isAgg23 Tryd.sizeOf23 (H.get 1 rfl) rfl rfl) fun a h => ?_
    refine st_store h H 0 rfl rfl rfl Tryd.sizeOf23 [_, _, _] rfl rfl rfl (by simp) [_, _, _] rfl (hl' := [_, _]) rfl fun w H hz hs => ?_
    refine c_nil hK ?_
    refine c_ret (hret0 _ _ (out1 h rfl ⟨_, rfl, run_loadVar_agg (vs := [_, _, _]) Tryd.isAgg23 Tryd.sizeOf23 (H.get 0 rfl) rfl rfl⟩ ?_))
    subst ec
    exact ⟨rfl, H.out⟩
  · have ec := ec5
    refine c_skip ?_
    refine hN3 _ _ ?_
    refine c_region fun K hK => ?_
    refine st1 h rfl rfl rfl (v_loadA [_, _, _] rfl Tryd.isAgg23 Tryd.sizeOf23 (H.get 1 rfl) rfl rfl) fun a h => ?_
    refine st_store h H 0 rfl rfl rfl Tryd.sizeOf23 [_, _, _] rfl rfl rfl (by simp) [_, _, _] rfl (hl' := [_, _]) rfl fun w H hz hs => ?_
    refine c_nil hK ?_
    have h := h.only [2] (l' := [(2, _)]) rfl
    refine c_ret (hret0 _ _ (out1 h rfl ⟨_, rfl, run_loadVar_agg (vs := [_, _, _]) Tryd.isAgg23 Tryd.sizeOf23 (H.get 0 rfl) rfl rfl⟩ ?_))
    subst ec
    exact ⟨rfl, H.out⟩

theorem text_ok (s : List UInt8) (w0 : World) : Calls Tryd.prog 11 [S s].toArray w0 (Ret fun v w => v = vV (textV s) ∧ Ext w0 w) := by
  refine enter Tryd.func11 rfl rfl rfl fun Q a h hret0 hnor => ?_
  have H := Hp.start w0
  have h := h.only [0] (l' := [(0, _)]) rfl
  refine c_region fun K hK => ?_
  refine st_alloc h H Tryd.zeroValue23 [_, _, _] rfl rfl fun a p2 w x2 X H h => ?_
  refine c_nil hK ?_
  refine c_seq _ (fun a w c => c) fun Q2 hN2 hO2 => ?_
  have hret2 := hO2.ret hret0
  refine c_region fun K hK => ?_
  refine st1 h rfl rfl rfl (v_move rfl) fun a h => ?_
  refine st1 h rfl rfl rfl (v_slen Tryd.underlying9 rfl) fun a h => ?_
  refine st1b h rfl rfl rfl (v_gt rfl rfl) fun b5 e5 a h => ?_
  refine c_nil hK ?_
  refine c_cond h rfl (fun ec5 => ?_) (fun ec5 => ?_)
  · simp only [e5, Bool.and_eq_true, Bool.or_eq_true, Bool.and_eq_false_iff, Bool.or_eq_false_iff, decide_eq_true_eq, decide_eq_false_iff_not, Bool.not_eq_true', Bool.not_eq_false', Bool.not_true, Bool.not_false, eq_self] at ec5
    have ec := ec5
    refine c_region fun K hK => ?_
    refine st2v (T := Ext) h rfl rfl rfl (d_call [_] rfl Tryd.call14 (fail_ok 2 _)) fun w X a h => ?_
    have H := H.ext X
    refine st_store h H 0 rfl rfl rfl Tryd.sizeOf23 [_, _, _] rfl rfl rfl (by simp) [_, _, _] rfl (hl' := [_]) rfl fun w H hz hs => ?_
    refine c_nil hK ?_
    have h := h.only [2] (l' := [(2, _)]) rfl
    refine c_ret (hret2 _ _ (out1 h rfl ⟨_, rfl, run_loadVar_agg (vs := [_, _, _]) Tryd.isAgg23 Tryd.sizeOf23 (H.get 0 rfl) rfl rfl⟩ ?_))
    refine ⟨?_, H.out⟩
    rw [textV, if_pos ec]
  · simp only [e5, Bool.and_eq_true, Bool.or_eq_true, Bool.and_eq_false_iff, Bool.or_eq_false_iff, decide_eq_true_eq, decide_eq_false_iff_not, Bool.not_eq_true', Bool.not_eq_false', Bool.not_true, Bool.not_false, eq_self] at ec5
    have ec := ec5
    refine c_skip ?_
    refine hN2 _ _ ?_
    refine c_region fun K hK => ?_
    refine st1 h rfl rfl rfl (v_move rfl) fun a h => ?_
    refine st1 h rfl rfl rfl (v_build bld23 [_, _] [_, _, _] rfl rfl) fun a h => ?_
    refine st_store h H 0 rfl rfl rfl Tryd.sizeOf23 [_, _, _] rfl rfl rfl (by simp) [_, _, _] rfl (hl' := [_]) rfl fun w H hz hs => ?_
    refine c_nil hK ?_
    have h := h.only [2] (l' := [(2, _)]) rfl
    refine c_ret (hret0 _ _ (out1 h rfl ⟨_, rfl, run_loadVar_agg (vs := [_, _, _]) Tryd.isAgg23 Tryd.sizeOf23 (H.get 0 rfl) rfl rfl⟩ ?_))
    refine ⟨?_, H.out⟩
    rw [textV, if_neg ec]

theorem right_ok (x : V) (w0 : World) : Calls Tryd.prog 23 [.agg #[.int .i64 x.k, .int .i64 x.n, S x.s]].toArray w0 (Ret fun v w => v = .bool (rightV x) ∧ Ext w0 w) := by
  refine enter Tryd.func23 rfl rfl rfl fun Q a h hret0 hnor => ?_
  have H := Hp.start w0
  have h := h.only [0] (l' := [(0, _)]) rfl
  refine c_region fun K hK => ?_
  refine st_box h H rfl [_, _, _] rfl rfl fun a p1 w x1 X H h => ?_
  refine st1 h rfl rfl rfl (v_assign rfl) fun a h => ?_
  refine c_nil hK ?_
  refine c_seq _ (fun a w c => c) fun Q2 hN2 hO2 => ?_
  have hret2 := hO2.ret hret0
  refine c_region fun K hK => ?_
  refine st1 h rfl rfl rfl (v_fieldAddr rfl Tryd.underlying23 rfl Tryd.sizeOf3 rfl rfl) fun a h => ?_
  refine st1 h rfl rfl rfl (v_load1 rfl Tryd.isAgg3 (H.get 0 rfl) rfl) fun a h => ?_
  refine c_nil hK ?_
  refine c_lblock fun Q4 hN4 hx0_4 hO4 => ?_
  have hret4 := hO4.ret hret2
  refine c_region fun K hK => ?_
  refine st1b h rfl rfl rfl (v_eq rfl rfl) fun b6 e6 a h => ?_
  refine st1 h rfl rfl rfl (v_assign rfl) fun a h => ?_
  refine c_nil hK ?_
  have h := h.only [1, 4, 5] (l' := [(1, _), (4, _), (5, _)]) rfl
  refine c_cond h rfl (fun ec5 => ?_) (fun ec5 => ?_)
  · simp only [e6, Bool.and_eq_true, Bool.or_eq_true, Bool.and_eq_false_iff, Bool.or_eq_false_iff, decide_eq_true_eq, decide_eq_false_iff_not, Bool.not_eq_true', Bool.not_eq_false', Bool.not_true, Bool.not_false, eq_self] at ec5
    have ec := ec5
    refine c_region fun K hK => ?_
    refine st1 h rfl rfl rfl (v_fieldAddr rfl Tryd.underlying23 rfl Tryd.sizeOf2 rfl rfl) fun a h => ?_
    refine st1 h rfl rfl rfl (v_load1 rfl Tryd.isAgg2 (H.get 0 rfl) rfl) fun a h => ?_
    refine st1b h rfl rfl rfl (v_eq rfl rfl) fun b9 e9 a h => ?_
    refine st1 h rfl rfl rfl (v_move rfl) fun a h => ?_
    refine st_g h rfl rfl (gT rfl) rfl rfl (fun e0 => v_fieldAddr rfl Tryd.underlying23 rfl Tryd.sizeOf9 rfl rfl) fun a h => ?_
    refine st_g h rfl rfl (gT rfl) rfl rfl (fun e0 => v_load1 (eg e0 rfl) Tryd.isAgg9 (H.get 0 rfl) rfl) fun a h => ?_
    refine st_gb h rfl rfl (gT rfl) rfl rfl (fun e0 => v_seq (eg e0 rfl) rfl) fun b13 e13 a h => ?_
    refine st1b h rfl rfl rfl (v_and rfl rfl) fun b14 e14 a h => ?_
    refine st1 h rfl rfl rfl (v_assign rfl) fun a h => ?_
    refine c_nil hK ?_
    have h := h.only [2] (l' := [(2, _)]) rfl
    refine c_ret (hret4 _ _ (out1 h rfl rfl ?_))
    refine ⟨?_, H.out⟩
    subst_vars
    simp only [rightV]
    rw [if_pos (by omega)]
  · simp only [e6, Bool.and_eq_true, Bool.or_eq_true, Bool.and_eq_false_iff, Bool.or_eq_false_iff, decide_eq_true_eq, decide_eq_false_iff_not, Bool.not_eq_true', Bool.not_eq_false', Bool.not_true, Bool.not_false, eq_self] at ec5
    have ec := ec5
    refine c_region fun K hK => ?_
    refine st1b h rfl rfl rfl (v_eq rfl rfl) fun b16 e16 a h => ?_
    refine st1 h rfl rfl rfl (v_assign rfl) fun a h => ?_
    refine c_nil hK ?_
    refine c_cond h rfl (fun ec15 => ?_) (fun ec15 => ?_)
    · simp only [e16, e6, Bool.and_eq_true, Bool.or_eq_true, Bool.and_eq_false_iff, Bool.or_eq_false_iff, decide_eq_true_eq, decide_eq_false_iff_not, Bool.not_eq_true', Bool.not_eq_false', Bool.not_true, Bool.not_false, eq_self] at ec15
      have ec := ec15
      refine c_region fun K hK => ?_
      refine st1 h rfl rfl rfl (v_fieldAddr rfl Tryd.underlying23 rfl Tryd.sizeOf2 rfl rfl) fun a h => ?_
      refine st1 h rfl rfl rfl (v_load1 rfl Tryd.isAgg2 (H.get 0 rfl) rfl) fun a h => ?_
      refine st1b h rfl rfl rfl (v_ne rfl rfl) fun b19 e19 a h => ?_
      refine st1 h rfl rfl rfl (v_move rfl) fun a h => ?_
      refine st_g h rfl rfl (gT rfl) rfl rfl (fun e0 => v_fieldAddr rfl Tryd.underlying23 rfl Tryd.sizeOf9 rfl rfl) fun a h => ?_
      refine st_g h rfl rfl (gT rfl) rfl rfl (fun e0 => v_load1 (eg e0 rfl) Tryd.isAgg9 (H.get 0 rfl) rfl) fun a h => ?_
      refine st_gb h rfl rfl (gT rfl) rfl rfl (fun e0 => v_seq (eg e0 rfl) rfl) fun b23 e23 a h => ?_
      refine st1b h rfl rfl rfl (v_and rfl rfl) fun b24 e24 a h => ?_
      refine st1 h rfl rfl rfl (v_assign rfl) fun a h => ?_
      refine c_nil hK ?_
      have h := h.only [2] (l' := [(2, _)]) rfl
      refine c_ret (hret4 _ _ (out1 h rfl rfl ?_))
      refine ⟨?_, H.out⟩
      subst_vars
      simp only [rightV]
      rw [if_neg (by omega)]
      rw [if_pos (by omega)]
    · simp only [e16, e6, Bool.and_eq_true, Bool.or_eq_true, Bool.and_eq_false_iff, Bool.or_eq_false_iff, decide_eq_true_eq, decide_eq_false_iff_not, Bool.not_eq_true', Bool.not_eq_false', Bool.not_true, Bool.not_false, eq_self] at ec15
      have ec := ec15
      refine c_region fun K hK => ?_
      refine st1b h rfl rfl rfl (v_eq rfl rfl) fun b26 e26 a h => ?_
      refine st1 h rfl rfl rfl (v_assign rfl) fun a h => ?_
      refine c_nil hK ?_
      have h := h.only [1, 4, 25] (l' := [(1, _), (4, _), (25, _)]) rfl
      refine c_cond h rfl (fun ec25 => ?_) (fun ec25 => ?_)
      · simp only [e26, e16, e6, Bool.and_eq_true, Bool.or_eq_true, Bool.and_eq_false_iff, Bool.or_eq_false_iff, decide_eq_true_eq, decide_eq_false_iff_not, Bool.not_eq_true', Bool.not_eq_false', Bool.not_true, Bool.not_false, eq_self] at ec25
        have ec := ec25
        refine c_region fun K hK => ?_
        refine st1 h rfl rfl rfl (v_fieldAddr rfl Tryd.underlying23 rfl Tryd.sizeOf2 rfl rfl) fun a h => ?_
        refine st1 h rfl rfl rfl (v_load1 rfl Tryd.isAgg2 (H.get 0 rfl) rfl) fun a h => ?_
        refine st1b h rfl rfl rfl (v_eq rfl rfl) fun b29 e29 a h => ?_
        refine st1 h rfl rfl rfl (v_move rfl) fun a h => ?_
        refine st_g h rfl rfl (gT rfl) rfl rfl (fun e0 => v_fieldAddr rfl Tryd.underlying23 rfl Tryd.sizeOf9 rfl rfl) fun a h => ?_
        refine st_g h rfl rfl (gT rfl) rfl rfl (fun e0 => v_load1 (eg e0 rfl) Tryd.isAgg9 (H.get 0 rfl) rfl) fun a h => ?_
        refine st_g h rfl rfl (gT rfl) rfl rfl (fun e0 => v_slen Tryd.underlying9 (eg e0 rfl)) fun a h => ?_
        refine st_gb h rfl rfl (gT rfl) rfl rfl (fun e0 => v_le (eg e0 rfl) rfl) fun b34 e34 a h => ?_
        refine st1b h rfl rfl rfl (v_and rfl rfl) fun b35 e35 a h => ?_
        refine st1 h rfl rfl rfl (v_assign rfl) fun a h => ?_
        refine c_nil hK ?_
        have h := h.only [2] (l' := [(2, _)]) rfl
        refine c_ret (hret4 _ _ (out1 h rfl rfl ?_))
        refine ⟨?_, H.out⟩
        subst_vars
        simp only [rightV]
        rw [if_neg (by omega)]
        rw [if_neg (by omega)]
        rw [if_pos (by omega)]
      · simp only [e26, e16, e6, Bool.and_eq_true, Bool.or_eq_true, Bool.and_eq_false_iff, Bool.or_eq_false_iff, decide_eq_true_eq, decide_eq_false_iff_not, Bool.not_eq_true', Bool.not_eq_false', Bool.not_true, Bool.not_false, eq_self] at ec25
        have ec := ec25
        refine c_region fun K hK => ?_
        refine st1b h rfl rfl rfl (v_eq rfl rfl) fun b37 e37 a h => ?_
        refine st1 h rfl rfl rfl (v_assign rfl) fun a h => ?_
        refine c_nil hK ?_
        refine c_cond h rfl (fun ec36 => ?_) (fun ec36 => ?_)
        · simp only [e37, e26, e16, e6, Bool.and_eq_true, Bool.or_eq_true, Bool.and_eq_false_iff, Bool.or_eq_false_iff, decide_eq_true_eq, decide_eq_false_iff_not, Bool.not_eq_true', Bool.not_eq_false', Bool.not_true, Bool.not_false, eq_self] at ec36
          have ec := ec36
          refine c_region fun K hK => ?_
          refine st1 h rfl rfl rfl (v_fieldAddr rfl Tryd.underlying23 rfl Tryd.sizeOf2 rfl rfl) fun a h => ?_
          refine st1 h rfl rfl rfl (v_load1 rfl Tryd.isAgg2 (H.get 0 rfl) rfl) fun a h => ?_
          refine st1 h rfl rfl rfl (v_band rfl rfl) fun a h => ?_
          refine st1 h rfl rfl rfl (v_fieldAddr rfl Tryd.underlying23 rfl Tryd.sizeOf2 rfl rfl) fun a h => ?_
          refine st1 h rfl rfl rfl (v_load1 rfl Tryd.isAgg2 (H.get 0 rfl) rfl) fun a h => ?_
          refine st1b h rfl rfl rfl (v_eq rfl rfl) fun b43 e43 a h => ?_
          refine st1 h rfl rfl rfl (v_move rfl) fun a h => ?_
          refine st_g h rfl rfl (gT rfl) rfl rfl (fun e0 => v_fieldAddr rfl Tryd.underlying23 rfl Tryd.sizeOf9 rfl rfl) fun a h => ?_
          refine st_g h rfl rfl (gT rfl) rfl rfl (fun e0 => v_load1 (eg e0 rfl) Tryd.isAgg9 (H.get 0 rfl) rfl) fun a h => ?_
          refine st_gb h rfl rfl (gT rfl) rfl rfl (fun e0 => v_seq (eg e0 rfl) rfl) fun b47 e47 a h => ?_
          refine st1b h rfl rfl rfl (v_and rfl rfl) fun b48 e48 a h => ?_
          refine st1 h rfl rfl rfl (v_assign rfl) fun a h => ?_
          refine c_nil hK ?_
          have h := h.only [2] (l' := [(2, _)]) rfl
          refine c_ret (hret4 _ _ (out1 h rfl rfl ?_))
          refine ⟨?_, H.out⟩
          subst_vars
          simp only [rightV]
          rw [if_neg (by omega)]
          rw [if_neg (by omega)]
          rw [if_neg (by omega)]
          rw [if_pos (by omega)]
        · simp only [e37, e26, e16, e6, Bool.and_eq_true, Bool.or_eq_true, Bool.and_eq_false_iff, Bool.or_eq_false_iff, decide_eq_true_eq, decide_eq_false_iff_not, Bool.not_eq_true', Bool.not_eq_false', Bool.not_true, Bool.not_false, eq_self] at ec36
          have ec := ec36
          refine c_region fun K hK => ?_
          refine st1b h rfl rfl rfl (v_eq rfl rfl) fun b50 e50 a h => ?_
          refine st1 h rfl rfl rfl (v_assign rfl) fun a h => ?_
          refine c_nil hK ?_
          have h := h.only [1, 49] (l' := [(1, _), (49, _)]) rfl
          refine c_cond h rfl (fun ec49 => ?_) (fun ec49 => ?_)
          · simp only [e50, e37, e26, e16, e6, Bool.and_eq_true, Bool.or_eq_true, Bool.and_eq_false_iff, Bool.or_eq_false_iff, decide_eq_true_eq, decide_eq_false_iff_not, Bool.not_eq_true', Bool.not_eq_false', Bool.not_true, Bool.not_false, eq_self] at ec49
            have ec := ec49
            refine c_region fun K hK => ?_
            refine st1 h rfl rfl rfl (v_fieldAddr rfl Tryd.underlying23 rfl Tryd.sizeOf2 rfl rfl) fun a h => ?_
            refine st1 h rfl rfl rfl (v_load1 rfl Tryd.isAgg2 (H.get 0 rfl) rfl) fun a h => ?_
            refine st1b h rfl rfl rfl (v_ge rfl rfl) fun b53 e53 a h => ?_
            refine st1 h rfl rfl rfl (v_move rfl) fun a h => ?_
            refine st_g h rfl rfl (gT rfl) rfl rfl (fun e0 => v_fieldAddr rfl Tryd.underlying23 rfl Tryd.sizeOf2 rfl rfl) fun a h => ?_
            refine st_g h rfl rfl (gT rfl) rfl rfl (fun e0 => v_load1 (eg e0 rfl) Tryd.isAgg2 (H.get 0 rfl) rfl) fun a h => ?_
            refine st_gb h rfl rfl (gT rfl) rfl rfl (fun e0 => v_le (eg e0 rfl) rfl) fun b57 e57 a h => ?_
            refine st1b h rfl rfl rfl (v_and rfl rfl) fun b58 e58 a h => ?_
            refine st1 h rfl rfl rfl (v_move rfl) fun a h => ?_
            refine st_g h rfl rfl (gT rfl) rfl rfl (fun e0 => v_fieldAddr rfl Tryd.underlying23 rfl Tryd.sizeOf9 rfl rfl) fun a h => ?_
            refine st_g h rfl rfl (gT rfl) rfl rfl (fun e0 => v_load1 (eg e0 rfl) Tryd.isAgg9 (H.get 0 rfl) rfl) fun a h => ?_
            refine st_gb h rfl rfl (gT rfl) rfl rfl (fun e0 => v_seq (eg e0 rfl) rfl) fun b62 e62 a h => ?_
            refine st1b h rfl rfl rfl (v_and rfl rfl) fun b63 e63 a h => ?_
            refine st1 h rfl rfl rfl (v_assign rfl) fun a h => ?_
            refine c_nil hK ?_
            have h := h.only [2] (l' := [(2, _)]) rfl
            refine c_ret (hret4 _ _ (out1 h rfl rfl ?_))
            refine ⟨?_, H.out⟩
            subst_vars
            simp only [rightV]
            rw [if_neg (by omega)]
            rw [if_neg (by omega)]
            rw [if_neg (by omega)]
            rw [if_neg (by omega)]
            rw [if_pos (by omega)]
          · simp only [e50, e37, e26, e16, e6, Bool.and_eq_true, Bool.or_eq_true, Bool.and_eq_false_iff, Bool.or_eq_false_iff, decide_eq_true_eq, decide_eq_false_iff_not, Bool.not_eq_true', Bool.not_eq_false', Bool.not_true, Bool.not_false, eq_self] at ec49
            have ec := ec49
            refine c_skip ?_
            refine hN4 _ _ ?_
            refine hN2 _ _ ?_
            refine c_region fun K hK => ?_
            refine st1 h rfl rfl rfl (v_assign rfl) fun a h => ?_
            refine c_nil hK ?_
            refine c_ret (hret0 _ _ (out1 h rfl rfl ?_))
            refine ⟨?_, H.out⟩
            subst_vars
            simp only [rightV]
            rw [if_neg (by omega)]
            rw [if_neg (by omega)]
            rw [if_neg (by omega)]
            rw [if_neg (by omega)]
            rw [if_neg (by omega)]
            

theorem good_ok (x : V) (w0 : World) : Calls Tryd.prog 6 [.agg #[.int .i64 x.k, .int .i64 x.n, S x.s]].toArray w0 (Ret fun v w => v = .bool (goodV x) ∧ Ext w0 w) := by
  refine enter Tryd.func6 rfl rfl rfl fun Q a h hret0 hnor => ?_
  have H := Hp.start w0
  have h := h.only [0] (l' := [(0, _)]) rfl
  refine c_region fun K hK => ?_
  refine st_box h H rfl [_, _, _] rfl rfl fun a p1 w x1 X H h => ?_
  refine st1 h rfl rfl rfl (v_assign rfl) fun a h => ?_
  refine c_nil hK ?_
  refine c_region fun K hK => ?_
  refine st1 h rfl rfl rfl (v_fieldAddr rfl Tryd.underlying23 rfl Tryd.sizeOf9 rfl rfl) fun a h => ?_
  refine st1 h rfl rfl rfl (v_load1 rfl Tryd.isAgg9 (H.get 0 rfl) rfl) fun a h => ?_
  refine st1 h rfl rfl rfl (v_slen Tryd.underlying9 rfl) fun a h => ?_
  refine st1b h rfl rfl rfl (v_le rfl rfl) fun b6 e6 a h => ?_
  refine st1 h rfl rfl rfl (v_move rfl) fun a h => ?_
  refine st_g h rfl rfl (gT rfl) rfl rfl (fun e0 => v_loadA [_, _, _] rfl Tryd.isAgg23 Tryd.sizeOf23 (H.get 0 rfl) rfl rfl) fun a h => ?_
  refine st_gdb (T := Ext) h rfl rfl (gT rfl) rfl rfl (Ext.refl _) (fun e0 => d_call [_] (evs_c (eg e0 rfl) evs_n) Tryd.call23 (right_ok x _)) fun b9 e9 w X a h => ?_
  have H := H.ext X
  refine st1b h rfl rfl rfl (v_and rfl rfl) fun b10 e10 a h => ?_
  refine st1 h rfl rfl rfl (v_move rfl) fun a h => ?_
  refine st_g h rfl rfl (gT rfl) rfl rfl (fun e0 => v_fieldAddr rfl Tryd.underlying23 rfl Tryd.sizeOf3 rfl rfl) fun a h => ?_
  refine st_g h rfl rfl (gT rfl) rfl rfl (fun e0 => v_load1 (eg e0 rfl) Tryd.isAgg3 (H.get 0 rfl) rfl) fun a h => ?_
  refine st_gb h rfl rfl (gT rfl) rfl rfl (fun e0 => v_ne (eg e0 rfl) rfl) fun b14 e14 a h => ?_
  refine st1b h rfl rfl rfl (v_and rfl rfl) fun b15 e15 a h => ?_
  refine st1 h rfl rfl rfl (v_assign rfl) fun a h => ?_
  refine c_nil hK ?_
  have h := h.only [2] (l' := [(2, _)]) rfl
  refine c_ret (hret0 _ _ (out1 h rfl rfl ?_))
  refine ⟨?_, H.out⟩
  subst_vars
  rfl

theorem rank_ok (x : V) (w0 : World) : Calls Tryd.prog 25 [.agg #[.int .i64 x.k, .int .i64 x.n, S x.s]].toArray w0 (Ret fun v w => v = .int .i64 x.k ∧ Ext w0 w) := by
  refine enter Tryd.func25 rfl rfl rfl fun Q a h hret0 hnor => ?_
  have H := Hp.start w0
  have h := h.only [0] (l' := [(0, _)]) rfl
  refine c_region fun K hK => ?_
  refine st_box h H rfl [_, _, _] rfl rfl fun a p1 w x1 X H h => ?_
  refine st1 h rfl rfl rfl (v_assign rfl) fun a h => ?_
  refine c_nil hK ?_
  refine c_region fun K hK => ?_
  refine st1 h rfl rfl rfl (v_fieldAddr rfl Tryd.underlying23 rfl Tryd.sizeOf3 rfl rfl) fun a h => ?_
  refine st1 h rfl rfl rfl (v_load1 rfl Tryd.isAgg3 (H.get 0 rfl) rfl) fun a h => ?_
  refine st1 h rfl rfl rfl (v_assign rfl) fun a h => ?_
  refine c_nil hK ?_
  have h := h.only [2] (l' := [(2, _)]) rfl
  refine c_ret (hret0 _ _ (out1 h rfl rfl ?_))
  exact ⟨rfl, H.out⟩

theorem like_ok (x y : V) (w0 : World) : Calls Tryd.prog 24 [.agg #[.int .i64 x.k, .int .i64 x.n, S x.s], .agg #[.int .i64 y.k, .int .i64 y.n, S y.s]].toArray w0 (Ret fun v w => v = vV (likeV x y) ∧ Ext w0 w) := by
  refine enter Tryd.func24 rfl rfl rfl fun Q a h hret0 hnor => ?_
  have H := Hp.start w0
  have h := h.only [0, 1] (l' := [(0, _), (1, _)]) rfl
  refine c_region fun K hK => ?_
  refine st_box h H rfl [_, _, _] rfl rfl fun a p2 w x2 X H h => ?_
  refine st_box h H rfl [_, _, _] rfl rfl fun a p3 w x3 X H h => ?_
  refine st_alloc h H Tryd.zeroValue23 [_, _, _] rfl rfl fun a p4 w x4 X H h => ?_
  refine c_nil hK ?_
  refine c_seq _ (fun a w c => c) fun Q2 hN2 hO2 => ?_
  have hret2 := hO2.ret hret0
  refine c_region fun K hK => ?_
  refine st1 h rfl rfl rfl (v_fieldAddr rfl Tryd.underlying23 rfl Tryd.sizeOf3 rfl rfl) fun a h => ?_
  refine st1 h rfl rfl rfl (v_load1 rfl Tryd.isAgg3 (H.get 0 rfl) rfl) fun a h => ?_
  refine st1b h rfl rfl rfl (v_ne rfl rfl) fun b7 e7 a h => ?_
  refine c_nil hK ?_
  have h := h.only [2, 3, 4, 7] (l' := [(2, _), (3, _), (4, _), (7, _)]) rfl
  refine c_cond h rfl (fun ec7 => ?_) (fun ec7 => ?_)
  · simp only [e7, Bool.and_eq_true, Bool.or_eq_true, Bool.and_eq_false_iff, Bool.or_eq_false_iff, decide_eq_true_eq, decide_eq_false_iff_not, Bool.not_eq_true', Bool.not_eq_false', Bool.not_true, Bool.not_false, eq_self] at ec7
    have ec := ec7
    refine c_region fun K hK => ?_
    refine st1 h rfl rfl rfl (v_loadA [_, _, _] rfl Tryd.isAgg23 Tryd.sizeOf23 (H.get 0 rfl) rfl rfl) fun a h => ?_
    refine st_store h H 2 rfl rfl rfl Tryd.sizeOf23 [_, _, _] rfl rfl rfl (by simp) [_, _, _] rfl (hl' := [_, _, _]) rfl fun w H hz hs => ?_
    refine c_nil hK ?_
    have h := h.only [4] (l' := [(4, _)]) rfl
    refine c_ret (hret2 _ _ (out1 h rfl ⟨_, rfl, run_loadVar_agg (vs := [_, _, _]) Tryd.isAgg23 Tryd.sizeOf23 (H.get 2 rfl) rfl rfl⟩ ?_))
    refine ⟨?_, H.out⟩
    rw [likeV, if_pos ec]
  · simp only [e7, Bool.and_eq_true, Bool.or_eq_true, Bool.and_eq_false_iff, Bool.or_eq_false_iff, decide_eq_true_eq, decide_eq_false_iff_not, Bool.not_eq_true', Bool.not_eq_false', Bool.not_true, Bool.not_false, eq_self] at ec7
    have ec := ec7
    refine c_skip ?_
    refine hN2 _ _ ?_
    refine c_seq _ (fun a w c => c) fun Q5 hN5 hO5 => ?_
    have hret5 := hO5.ret hret0
    refine c_region fun K hK => ?_
    refine st1 h rfl rfl rfl (v_fieldAddr rfl Tryd.underlying23 rfl Tryd.sizeOf3 rfl rfl) fun a h => ?_
    refine st1 h rfl rfl rfl (v_load1 rfl Tryd.isAgg3 (H.get 1 rfl) rfl) fun a h => ?_
    refine c_nil hK ?_
    have h := h.only [4, 10] (l' := [(4, _), (10, _)]) rfl
    refine c_lblock fun Q7 hN7 hx0_7 hO7 => ?_
    have hret7 := hO7.ret hret5
    refine c_region fun K hK => ?_
    refine st1b h rfl rfl rfl (v_eq rfl rfl) fun b12 e12 a h => ?_
    refine st1 h rfl rfl rfl (v_assign rfl) fun a h => ?_
    refine c_nil hK ?_
    refine c_cond h rfl (fun ec11 => ?_) (fun ec11 => ?_)
    · simp only [e12, e7, Bool.and_eq_true, Bool.or_eq_true, Bool.and_eq_false_iff, Bool.or_eq_false_iff, decide_eq_true_eq, decide_eq_false_iff_not, Bool.not_eq_true', Bool.not_eq_false', Bool.not_true, Bool.not_false, eq_self] at ec11
      have ec := ec11
      refine c_region fun K hK => ?_
      refine st2v (T := Ext) h rfl rfl rfl (d_call [_] rfl Tryd.call11 (text_ok [] _)) fun w X a h => ?_
      have H := H.ext X
      refine st_store h H 2 rfl rfl rfl Tryd.sizeOf23 [_, _, _] rfl rfl rfl (by simp) [_, _, _] rfl (hl' := [_, _, _]) rfl fun w H hz hs => ?_
      refine c_nil hK ?_
      have h := h.only [4] (l' := [(4, _)]) rfl
      refine c_ret (hret7 _ _ (out1 h rfl ⟨_, rfl, run_loadVar_agg (vs := [_, _, _]) Tryd.isAgg23 Tryd.sizeOf23 (H.get 2 rfl) rfl rfl⟩ ?_))
      refine ⟨?_, H.out⟩
      rw [likeV, if_neg (by omega), if_pos ec]
    · simp only [e12, e7, Bool.and_eq_true, Bool.or_eq_true, Bool.and_eq_false_iff, Bool.or_eq_false_iff, decide_eq_true_eq, decide_eq_false_iff_not, Bool.not_eq_true', Bool.not_eq_false', Bool.not_true, Bool.not_false, eq_self] at ec11
      have ec := ec11
      refine c_region fun K hK => ?_
      refine st1b h rfl rfl rfl (v_eq rfl rfl) fun b15 e15 a h => ?_
      refine st1 h rfl rfl rfl (v_assign rfl) fun a h => ?_
      refine c_nil hK ?_
      have h := h.only [4, 14] (l' := [(4, _), (14, _)]) rfl
      refine c_cond h rfl (fun ec14 => ?_) (fun ec14 => ?_)
      · simp only [e15, e12, e7, Bool.and_eq_true, Bool.or_eq_true, Bool.and_eq_false_iff, Bool.or_eq_false_iff, decide_eq_true_eq, decide_eq_false_iff_not, Bool.not_eq_true', Bool.not_eq_false', Bool.not_true, Bool.not_false, eq_self] at ec14
        have ec := ec14
        refine c_region fun K hK => ?_
        refine st2v (T := Ext) h rfl rfl rfl (d_call [_] rfl Tryd.call9 (bool_ok false _)) fun w X a h => ?_
        have H := H.ext X
        refine st_store h H 2 rfl rfl rfl Tryd.sizeOf23 [_, _, _] rfl rfl rfl (by simp) [_, _, _] rfl (hl' := [_, _, _]) rfl fun w H hz hs => ?_
        refine c_nil hK ?_
        refine c_ret (hret7 _ _ (out1 h rfl ⟨_, rfl, run_loadVar_agg (vs := [_, _, _]) Tryd.isAgg23 Tryd.sizeOf23 (H.get 2 rfl) rfl rfl⟩ ?_))
        refine ⟨?_, H.out⟩
        rw [likeV, if_neg (by omega), if_neg (by omega), if_pos ec]
      · simp only [e15, e12, e7, Bool.and_eq_true, Bool.or_eq_true, Bool.and_eq_false_iff, Bool.or_eq_false_iff, decide_eq_true_eq, decide_eq_false_iff_not, Bool.not_eq_true', Bool.not_eq_false', Bool.not_true, Bool.not_false, eq_self] at ec14
        have ec := ec14
        refine c_skip ?_
        refine hN7 _ _ ?_
        refine hN5 _ _ ?_
        refine c_region fun K hK => ?_
        refine st2v (T := Ext) h rfl rfl rfl (d_call [_] rfl Tryd.call21 (num_ok 0 _)) fun w X a h => ?_
        have H := H.ext X
        refine st_store h H 2 rfl rfl rfl Tryd.sizeOf23 [_, _, _] rfl rfl rfl (by simp) [_, _, _] rfl (hl' := [_, _, _]) rfl fun w H hz hs => ?_
        refine c_nil hK ?_
        refine c_ret (hret0 _ _ (out1 h rfl ⟨_, rfl, run_loadVar_agg (vs := [_, _, _]) Tryd.isAgg23 Tryd.sizeOf23 (H.get 2 rfl) rfl rfl⟩ ?_))
        refine ⟨?_, H.out⟩
        rw [likeV, if_neg (by omega), if_neg (by omega), if_neg (by omega)]

theorem scmp_ok (a b : List UInt8) (w : World) : Calls Tryd.prog 26 [S a, S b].toArray w (Ret fun v w' => v = .int .i64 (Lib.compareBytes a b) ∧ Ext w w') := by
  refine (Tryd.strings_Compare ⟨a.toArray⟩ ⟨b.toArray⟩ w).mono ?_
  rintro e w' ⟨rfl, rfl⟩
  exact ⟨rfl, Ext.refl _⟩

theorem compare_ok (x y : V) (w0 : World) (hx : 0 ≤ x.k ∧ x.k ≤ 3) (hy : 0 ≤ y.k ∧ y.k ≤ 3) : Calls Tryd.prog 10 [.agg #[.int .i64 x.k, .int .i64 x.n, S x.s], .agg #[.int .i64 y.k, .int .i64 y.n, S y.s]].toArray w0 (Ret fun v w => v = .int .i64 (cmpV x y) ∧ Ext w0 w) := by
  refine enter Tryd.func10 rfl rfl rfl fun Q a h hret0 hnor => ?_
  have H := Hp.start w0
  have h := h.only [0, 1] (l' := [(0, _), (1, _)]) rfl
  refine c_region fun K hK => ?_
  refine st_box h H rfl [_, _, _] rfl rfl fun a p2 w x2 X H h => ?_
  refine st_box h H rfl [_, _, _] rfl rfl fun a p3 w x3 X H h => ?_
  refine st1 h rfl rfl rfl (v_assign rfl) fun a h => ?_
  have hka := like_rk (a := x) (b := y) ⟨hx.1, by omega⟩
  have hkb := like_rk (a := y) (b := x) ⟨hy.1, by omega⟩
  refine c_nil hK ?_
  refine c_tail H 6 [] rfl (by kernel_rfl) (by kernel_rfl) fun K hK pi1 hpi1 => ?_
  refine t1 h rfl rfl rfl rfl (fun w X => have H := H.ext X; v_loadA [_, _, _] rfl Tryd.isAgg23 Tryd.sizeOf23 (H.get 0 rfl) rfl rfl) fun a h => ?_
  refine t1 h rfl rfl rfl rfl (fun w X => have H := H.ext X; v_loadA [_, _, _] rfl Tryd.isAgg23 Tryd.sizeOf23 (H.get 1 rfl) rfl rfl) fun a h => ?_
  refine t2 h rfl rfl rfl rfl (fun w X => t_call [_, _] rfl Tryd.call24 ni24 (like_ok x y _)) fun a h => ?_
  refine t1 h rfl rfl rfl rfl (fun w X => have H := H.ext X; v_loadA [_, _, _] rfl Tryd.isAgg23 Tryd.sizeOf23 (H.get 1 rfl) rfl rfl) fun a h => ?_
  refine t1 h rfl rfl rfl rfl (fun w X => have H := H.ext X; v_loadA [_, _, _] rfl Tryd.isAgg23 Tryd.sizeOf23 (H.get 0 rfl) rfl rfl) fun a h => ?_
  refine t2 h rfl rfl rfl rfl (fun w X => t_call [_, _] rfl Tryd.call24 ni24 (like_ok y x _)) fun a h => ?_
  refine tn ?_
  intro w X H
  have H : Hp w0 [_, _] w := H
  refine st_store h H 0 rfl rfl rfl Tryd.sizeOf23 [_, _, _] rfl rfl rfl (by simp) [_, _, _] rfl (hl' := [_, _]) rfl fun w H hz hs => ?_
  refine st_store h H 1 rfl rfl rfl Tryd.sizeOf23 [_, _, _] rfl rfl rfl (by simp) [_, _, _] rfl (hl' := [_, _]) rfl fun w H hz hs => ?_
  refine c_nil hK ?_
  have h := h.only [2, 3] (l' := [(2, _), (3, _)]) rfl
  refine c_seq _ (fun a w c => c) fun Q3 hN3 hO3 => ?_
  have hret3 := hO3.ret hret0
  refine c_region fun K hK => ?_
  refine st1 h rfl rfl rfl (v_fieldAddr rfl Tryd.underlying23 rfl Tryd.sizeOf3 rfl rfl) fun a h => ?_
  refine st1 h rfl rfl rfl (v_load1 rfl Tryd.isAgg3 (H.get 0 rfl) rfl) fun a h => ?_
  refine st1 h rfl rfl rfl (v_fieldAddr rfl Tryd.underlying23 rfl Tryd.sizeOf3 rfl rfl) fun a h => ?_
  refine st1 h rfl rfl rfl (v_load1 rfl Tryd.isAgg3 (H.get 1 rfl) rfl) fun a h => ?_
  refine st1b h rfl rfl rfl (v_ne rfl rfl) fun b15 e15 a h => ?_
  refine c_nil hK ?_
  have h := h.only [2, 3, 15] (l' := [(2, _), (3, _), (15, _)]) rfl
  refine c_cond h rfl (fun ec15 => ?_) (fun ec15 => ?_)
  · simp only [e15, Bool.and_eq_true, Bool.or_eq_true, Bool.and_eq_false_iff, Bool.or_eq_false_iff, decide_eq_true_eq, decide_eq_false_iff_not, Bool.not_eq_true', Bool.not_eq_false', Bool.not_true, Bool.not_false, eq_self] at ec15
    have ec := ec15
    refine c_quiet (by kernel_rfl) (by kernel_rfl) ?_
    refine q1 h rfl rfl rfl (fun w X => have H := H.ext X; v_loadA [_, _, _] rfl Tryd.isAgg23 Tryd.sizeOf23 (H.get 0 rfl) rfl rfl) fun a h => ?_
    refine q2 h rfl rfl rfl (fun w X => q_call [_] rfl Tryd.call25 X (rank_ok (likeV x y) _)) fun a h => ?_
    refine q1 h rfl rfl rfl (fun w X => have H := H.ext X; v_loadA [_, _, _] rfl Tryd.isAgg23 Tryd.sizeOf23 (H.get 1 rfl) rfl rfl) fun a h => ?_
    refine q2 h rfl rfl rfl (fun w X => q_call [_] rfl Tryd.call25 X (rank_ok (likeV y x) _)) fun a h => ?_
    refine q1 h rfl rfl rfl (fun w X => v_sub rfl rfl (wi (by omega))) fun a h => ?_
    refine q1 h rfl rfl rfl (fun w X => v_assign rfl) fun a h => ?_
    have hka := like_rk (a := x) (b := y) ⟨hx.1, by omega⟩
    have hkb := like_rk (a := y) (b := x) ⟨hy.1, by omega⟩
    refine qn ?_
    intro w X
    have H := H.ext X
    have h := h.only [4] (l' := [(4, _)]) rfl
    refine c_ret (hret3 _ _ (out1 h rfl rfl ?_))
    refine ⟨?_, H.out⟩
    simp only [cmpV, cmpN]
    rw [if_pos ec]
  · simp only [e15, Bool.and_eq_true, Bool.or_eq_true, Bool.and_eq_false_iff, Bool.or_eq_false_iff, decide_eq_true_eq, decide_eq_false_iff_not, Bool.not_eq_true', Bool.not_eq_false', Bool.not_true, Bool.not_false, eq_self] at ec15
    have ec := ec15
    refine c_skip ?_
    refine hN3 _ _ ?_
    refine c_block _ (fun a w c => c) fun Q6 hN6 hx0_6 hO6 => ?_
    have hret6 := hO6.ret hret0
    refine c_region fun K hK => ?_
    refine st1 h rfl rfl rfl (v_fieldAddr rfl Tryd.underlying23 rfl Tryd.sizeOf3 rfl rfl) fun a h => ?_
    refine st1 h rfl rfl rfl (v_load1 rfl Tryd.isAgg3 (H.get 0 rfl) rfl) fun a h => ?_
    refine st1b h rfl rfl rfl (v_eq rfl rfl) fun b24 e24 a h => ?_
    refine st1 h rfl rfl rfl (v_assign rfl) fun a h => ?_
    refine c_nil hK ?_
    have h := h.only [2, 3, 21] (l' := [(2, _), (3, _), (21, _)]) rfl
    refine c_cond h rfl (fun ec21 => ?_) (fun ec21 => ?_)
    · simp only [e24, e15, Bool.and_eq_true, Bool.or_eq_true, Bool.and_eq_false_iff, Bool.or_eq_false_iff, decide_eq_true_eq, decide_eq_false_iff_not, Bool.not_eq_true', Bool.not_eq_false', Bool.not_true, Bool.not_false, eq_self] at ec21
      have ec := ec21
      refine c_region fun K hK => ?_
      refine st1 h rfl rfl rfl (v_fieldAddr rfl Tryd.underlying23 rfl Tryd.sizeOf9 rfl rfl) fun a h => ?_
      refine st1 h rfl rfl rfl (v_load1 rfl Tryd.isAgg9 (H.get 0 rfl) rfl) fun a h => ?_
      refine st1 h rfl rfl rfl (v_fieldAddr rfl Tryd.underlying23 rfl Tryd.sizeOf9 rfl rfl) fun a h => ?_
      refine st1 h rfl rfl rfl (v_load1 rfl Tryd.isAgg9 (H.get 1 rfl) rfl) fun a h => ?_
      refine st2v (T := Ext) h rfl rfl rfl (d_call [_, _] rfl Tryd.call26 (scmp_ok _ _ _)) fun w X a h => ?_
      have H := H.ext X
      refine st1 h rfl rfl rfl (v_assign rfl) fun a h => ?_
      have hka := like_rk (a := x) (b := y) ⟨hx.1, by omega⟩
      have hkb := like_rk (a := y) (b := x) ⟨hy.1, by omega⟩
      refine c_nil hK ?_
      have h := h.only [4] (l' := [(4, _)]) rfl
      refine c_ret (hret6 _ _ (out1 h rfl rfl ?_))
      refine ⟨?_, H.out⟩
      simp only [cmpV, cmpN]
      rw [if_neg (by omega), if_pos (by assumption)]
    · simp only [e24, e15, Bool.and_eq_true, Bool.or_eq_true, Bool.and_eq_false_iff, Bool.or_eq_false_iff, decide_eq_true_eq, decide_eq_false_iff_not, Bool.not_eq_true', Bool.not_eq_false', Bool.not_true, Bool.not_false, eq_self] at ec21
      have ec := ec21
      refine c_region fun K hK => ?_
      refine st1 h rfl rfl rfl (v_fieldAddr rfl Tryd.underlying23 rfl Tryd.sizeOf2 rfl rfl) fun a h => ?_
      refine st1 h rfl rfl rfl (v_load1 rfl Tryd.isAgg2 (H.get 0 rfl) rfl) fun a h => ?_
      refine st1 h rfl rfl rfl (v_fieldAddr rfl Tryd.underlying23 rfl Tryd.sizeOf2 rfl rfl) fun a h => ?_
      refine st1 h rfl rfl rfl (v_load1 rfl Tryd.isAgg2 (H.get 1 rfl) rfl) fun a h => ?_
      refine st1b h rfl rfl rfl (v_lt rfl rfl) fun b35 e35 a h => ?_
      refine st1 h rfl rfl rfl (v_assign rfl) fun a h => ?_
      refine c_nil hK ?_
      have h := h.only [2, 3, 30] (l' := [(2, _), (3, _), (30, _)]) rfl
      refine c_cond h rfl (fun ec30 => ?_) (fun ec30 => ?_)
      · simp only [e35, e24, e15, Bool.and_eq_true, Bool.or_eq_true, Bool.and_eq_false_iff, Bool.or_eq_false_iff, decide_eq_true_eq, decide_eq_false_iff_not, Bool.not_eq_true', Bool.not_eq_false', Bool.not_true, Bool.not_false, eq_self] at ec30
        have ec := ec30
        refine c_region fun K hK => ?_
        refine st1 h rfl rfl rfl (v_assign rfl) fun a h => ?_
        have hka := like_rk (a := x) (b := y) ⟨hx.1, by omega⟩
        have hkb := like_rk (a := y) (b := x) ⟨hy.1, by omega⟩
        refine c_nil hK ?_
        refine c_ret (hret6 _ _ (out1 h rfl rfl ?_))
        refine ⟨?_, H.out⟩
        simp only [cmpV, cmpN]
        rw [if_neg (by omega), if_neg (by assumption), if_pos (by assumption)]
      · simp only [e35, e24, e15, Bool.and_eq_true, Bool.or_eq_true, Bool.and_eq_false_iff, Bool.or_eq_false_iff, decide_eq_true_eq, decide_eq_false_iff_not, Bool.not_eq_true', Bool.not_eq_false', Bool.not_true, Bool.not_false, eq_self] at ec30
        have ec := ec30
        refine c_region fun K hK => ?_
        refine st1 h rfl rfl rfl (v_fieldAddr rfl Tryd.underlying23 rfl Tryd.sizeOf2 rfl rfl) fun a h => ?_
        refine st1 h rfl rfl rfl (v_load1 rfl Tryd.isAgg2 (H.get 0 rfl) rfl) fun a h => ?_
        refine st1 h rfl rfl rfl (v_fieldAddr rfl Tryd.underlying23 rfl Tryd.sizeOf2 rfl rfl) fun a h => ?_
        refine st1 h rfl rfl rfl (v_load1 rfl Tryd.isAgg2 (H.get 1 rfl) rfl) fun a h => ?_
        refine st1b h rfl rfl rfl (v_gt rfl rfl) fun b41 e41 a h => ?_
        refine st1 h rfl rfl rfl (v_assign rfl) fun a h => ?_
        refine c_nil hK ?_
        have h := h.only [36] (l' := [(36, _)]) rfl
        refine c_cond h rfl (fun ec36 => ?_) (fun ec36 => ?_)
        · simp only [e41, e35, e24, e15, Bool.and_eq_true, Bool.or_eq_true, Bool.and_eq_false_iff, Bool.or_eq_false_iff, decide_eq_true_eq, decide_eq_false_iff_not, Bool.not_eq_true', Bool.not_eq_false', Bool.not_true, Bool.not_false, eq_self] at ec36
          have ec := ec36
          refine c_region fun K hK => ?_
          refine st1 h rfl rfl rfl (v_assign rfl) fun a h => ?_
          have hka := like_rk (a := x) (b := y) ⟨hx.1, by omega⟩
          have hkb := like_rk (a := y) (b := x) ⟨hy.1, by omega⟩
          refine c_nil hK ?_
          refine c_ret (hret6 _ _ (out1 h rfl rfl ?_))
          refine ⟨?_, H.out⟩
          simp only [cmpV, cmpN]
          rw [if_neg (by omega), if_neg (by assumption), if_neg (by assumption), if_pos (by assumption)]
        · simp only [e41, e35, e24, e15, Bool.and_eq_true, Bool.or_eq_true, Bool.and_eq_false_iff, Bool.or_eq_false_iff, decide_eq_true_eq, decide_eq_false_iff_not, Bool.not_eq_true', Bool.not_eq_false', Bool.not_true, Bool.not_false, eq_self] at ec36
          have ec := ec36
          refine c_skip ?_
          refine hN6 _ _ ?_
          refine c_region fun K hK => ?_
          refine st1 h rfl rfl rfl (v_assign rfl) fun a h => ?_
          have hka := like_rk (a := x) (b := y) ⟨hx.1, by omega⟩
          have hkb := like_rk (a := y) (b := x) ⟨hy.1, by omega⟩
          refine c_nil hK ?_
          refine c_ret (hret0 _ _ (out1 h rfl rfl ?_))
          refine ⟨?_, H.out⟩
          simp only [cmpV, cmpN]
          rw [if_neg (by omega), if_neg (by assumption), if_neg (by assumption), if_neg (by assumption)]

end Go.Proofs.YtmfblggkgmgccaaDoor
