/- Walks of the functions of package value, the law FuncsComparisons. -/
import Derived.Test.YtmfblggkgmgccaaDoorF
import Derived.Test.YtmfblggkgmgccaaDoorValPlain
import Derived.Test.YtmfblggkgmgccaaDoorValC
import Derived.Test.YtmfblggkgmgccaaDoorShelf
set_option linter.unusedSimpArgs false
set_option linter.unusedVariables false
set_option linter.unusedSectionVars false
namespace Go.Proofs.YtmfblggkgmgccaaDoor
open Go.Stp Go.RowKit Go.ValP
theorem funcsComparisons_ok (x y : V) (w0 : World) : Calls Tryd.prog 3 [.agg #[.int .i64 x.k, .int .i64 x.n, S x.s], .agg #[.int .i64 y.k, .int .i64 y.n, S y.s]].toArray w0 (Ret fun v w => v = .bool true ∧ Ext w0 w) := by
  refine enter Tryd.func3 rfl rfl rfl fun Q a h hret0 hnor => ?_
  have H := Hp.start w0
  have h := h.only [0, 1] (l' := [(0, _), (1, _)]) rfl
  refine c_region fun K hK => ?_
  refine st_box h H rfl [_, _, _] rfl rfl fun a p2 w x2 X H h => ?_
  refine st_box h H rfl [_, _, _] rfl rfl fun a p3 w x3 X H h => ?_
  refine st1 h rfl rfl rfl (v_assign rfl) fun a h => ?_
  refine c_nil hK ?_
  refine c_seq _ (fun a w c => c) fun Q2 hN2 hO2 => ?_
  have hret2 := hO2.ret hret0
  refine c_region fun K hK => ?_
  refine st2b (T := Ext) h rfl rfl rfl (d_call [] rfl Tryd.call5 (fit_ok _)) fun b9 e9 w X a h => ?_
  have H := H.ext X
  refine st1b h rfl rfl rfl (v_not rfl) fun b10 e10 a h => ?_
  refine c_nil hK ?_
  have h := h.only [2, 3, 10] (l' := [(2, _), (3, _), (10, _)]) rfl
  refine c_cond h rfl (fun ec10 => ?_) (fun ec10 => ?_)
  · have ec := ec10
    exact absurd ec (by rw [e10, e9]; decide)
  · have ec := ec10
    skip
    refine c_skip ?_
    refine hN2 _ _ ?_
    refine c_seq _ (fun a w c => c) fun Q4 hN4 hO4 => ?_
    have hret4 := hO4.ret hret0
    refine c_region fun K hK => ?_
    refine st1 h rfl rfl rfl (v_loadA [_, _, _] rfl Tryd.isAgg23 Tryd.sizeOf23 (H.get 0 rfl) rfl rfl) fun a h => ?_
    refine st2b (T := Ext) h rfl rfl rfl (d_call [_] rfl Tryd.call6 (good_ok x _)) fun b12 e12 w X a h => ?_
    have H := H.ext X
    refine st1b h rfl rfl rfl (v_not rfl) fun b13 e13 a h => ?_
    refine st1 h rfl rfl rfl (v_move rfl) fun a h => ?_
    refine st_g h rfl rfl (gF rfl) rfl rfl (fun e0 => v_loadA [_, _, _] rfl Tryd.isAgg23 Tryd.sizeOf23 (H.get 1 rfl) rfl rfl) fun a h => ?_
    refine st_gdb (T := Ext) h rfl rfl (gF rfl) rfl rfl (Ext.refl _) (fun e0 => d_call [_] (evs_c (eg e0 rfl) evs_n) Tryd.call6 (good_ok y _)) fun b16 e16 w X a h => ?_
    have H := H.ext X
    refine st_gb h rfl rfl (gF rfl) rfl rfl (fun e0 => v_not (eg e0 rfl)) fun b17 e17 a h => ?_
    refine st1b h rfl rfl rfl (v_or rfl rfl) fun b18 e18 a h => ?_
    refine c_nil hK ?_
    have h := h.only [2, 3, 18] (l' := [(2, _), (3, _), (18, _)]) rfl
    refine c_cond h rfl (fun ec18 => ?_) (fun ec18 => ?_)
    · simp only [e18, e17, e16, e13, e12, e10, e9, Bool.and_eq_true, Bool.or_eq_true, Bool.and_eq_false_iff, Bool.or_eq_false_iff, decide_eq_true_eq, decide_eq_false_iff_not, Bool.not_eq_true', Bool.not_eq_false', Bool.not_true, Bool.not_false, eq_self] at ec18
      have ec := ec18
      refine c_region fun K hK => ?_
      refine st1 h rfl rfl rfl (v_assign rfl) fun a h => ?_
      refine c_nil hK ?_
      refine c_ret (hret4 _ _ (out1 h rfl rfl ?_))
      refine ⟨?_, H.out⟩
      rfl
    · have ec := ec18
      simp only [e18, e17, e16, e13, e12, Bool.and_eq_true, Bool.or_eq_true, Bool.and_eq_false_iff, Bool.or_eq_false_iff, decide_eq_true_eq, decide_eq_false_iff_not, Bool.not_eq_true', Bool.not_eq_false', Bool.not_true, Bool.not_false, eq_self] at ec
      have hx := good_rk (v := x) (by simpa using ec.1)
      have hy := good_rk (v := y) (by simpa using ec.2)
      refine c_skip ?_
      refine hN4 _ _ ?_
      refine c_region fun K hK => ?_
      refine st1 h rfl rfl rfl (v_assign rfl) fun a h => ?_
      refine c_nil hK ?_
      refine c_region fun K hK => ?_
      refine st1 h rfl rfl rfl (v_assign rfl) fun a h => ?_
      refine c_nil hK ?_
      refine c_seq _ (fun a w c => c) fun Q9 hN9 hO9 => ?_
      have hret9 := hO9.ret hret0
      refine c_region fun K hK => ?_
      refine st_sliceN h H Tryd.underlying29 Tryd.sizeOf3 Tryd.zeroValue3 rfl (zl := [.int .i64 0, .int .i64 0, .int .i64 0]) (by kernel_rfl) (plA_get 3 1) [_, _, _] [_, _, _] rfl rfl rfl fun a p19 w x19 X H h => ?_
      have hr19 : Reads w (.slice (some ⟨p19, 0, none⟩) 3 3) 1 (fun z => [.int .i64 z]) opsC := Reads.of_blk (data := opsC) (enc := fun z => [.int .i64 z]) (H.get 2 rfl) rfl
      refine st1 h rfl rfl rfl (v_len Tryd.underlying29 rfl hr19) fun a h => ?_
      refine st1 h rfl rfl rfl (v_move rfl) fun a h => ?_
      refine c_nil hK ?_
      refine c_lblock fun Q11 hN11 hx0_11 hO11 => ?_
      have hret11 := hO11.ret hret9
      refine c_loopN (fun mu_ a w => ∃ (i m : Int), mu_ = (3 - i).toNat ∧ ((0 ≤ i ∧ i ≤ 3) ∧ (m = cntA i (cmpV x y)) ∧ (Reads w (.slice (some ⟨p19, 0, none⟩) 3 3) 1 (fun z => [.int .i64 z]) opsC)) ∧ Fr 86 [(2, .pointer (some ⟨p2, 0, none⟩)), (3, .pointer (some ⟨p3, 0, none⟩)), (5, .func (.func 7) #[] #[]), (6, .int .i64 m), (19, .slice (some ⟨p19, 0, none⟩) 3 3), (20, .int .i64 3), (21, .int .i64 i)] a ∧ Hp w0 [.blk p2 (Cel [.int .i64 x.k, .int .i64 x.n, S x.s] 23), .blk p3 (Cel [.int .i64 y.k, .int .i64 y.n, S y.s] 23)] w) _ ⟨0, 0, rfl, ⟨by omega, rfl, hr19⟩, (h.only [2, 3, 5, 6, 19, 20, 21] (l' := [(2, _), (3, _), (5, _), (6, _), (19, _), (20, _), (21, _)]) rfl), (H.keepN 2 rfl)⟩ ?_
      rintro _ a w ⟨i, m, rfl, ⟨hi, hn, hr19⟩, h, H⟩ Q12 hN12 hO12
      have hret12 := hO12.ret hret11
      have hx0_12 := hO12.exit (i := 0) rfl hx0_11
      have hcb := cnt_bd i (cmpV x y) (by omega)
      refine c_region fun K hK => ?_
      refine st1b h rfl rfl rfl (v_lt rfl rfl) fun b22 e22 a h => ?_
      refine c_nil hK ?_
      refine c_seq _ (fun a w c => c) fun Q14 hN14 hO14 => ?_
      have hret14 := hO14.ret hret12
      have hx0_14 := hO14.exit (i := 0) rfl hx0_12
      refine c_cond h rfl (fun ec22 => ?_) (fun ec22 => ?_)
      · simp only [e22, Bool.and_eq_true, Bool.or_eq_true, Bool.and_eq_false_iff, Bool.or_eq_false_iff, decide_eq_true_eq, decide_eq_false_iff_not, Bool.not_eq_true', Bool.not_eq_false', Bool.not_true, Bool.not_false, eq_self] at ec22
        have ec := ec22
        refine c_skip ?_
        refine hN14 _ _ ?_
        refine c_block _ (fun a w c => c) fun Q15 hN15 hx1_15 hO15 => ?_
        have hret15 := hO15.ret hret12
        have hx0_15 := hO15.exit (i := 0) rfl hx0_12
        refine c_region fun K hK => ?_
        refine st_idx h Tryd.underlying29 Tryd.sizeOf3 rfl rfl hr19 (fun _ => rfl) (opsC.getD i.toNat 0) (by omega) (ops_get i (by omega)) rfl fun a v23 A23 h => ?_
        refine st1 h rfl rfl rfl (v_loadAt1 rfl A23 Tryd.isAgg3 rfl) fun a h => ?_
        refine st1 h rfl rfl rfl (v_assign rfl) fun a h => ?_
        refine c_nil hK ?_
        refine c_region fun K hK => ?_
        refine st1 h rfl rfl rfl (v_move rfl) fun a h => ?_
        refine st1 h rfl rfl rfl (v_move rfl) fun a h => ?_
        refine st1 h rfl rfl rfl (v_loadA [_, _, _] rfl Tryd.isAgg23 Tryd.sizeOf23 (H.get 0 rfl) rfl rfl) fun a h => ?_
        refine st1 h rfl rfl rfl (v_loadA [_, _, _] rfl Tryd.isAgg23 Tryd.sizeOf23 (H.get 1 rfl) rfl rfl) fun a h => ?_
        refine st2b (T := Ext) h rfl rfl rfl (d_callV [_, _, _] rfl rfl Tryd.call7 [_, _, _] rfl (is_ok (opsC.getD i.toNat 0) x y _ (ops_bd i (by omega)) hx hy)) fun b29 e29 w X a h => ?_
        have H := H.ext X
        have hr19 := Reads.ext hr19 X
        have A23 := At.ext A23 X
        refine c_nil hK ?_
        have h := h.only [2, 3, 5, 6, 19, 20, 21, 29] (l' := [(2, _), (3, _), (5, _), (6, _), (19, _), (20, _), (21, _), (29, _)]) rfl
        clear A23
        refine c_cond h rfl (fun ec29 => ?_) (fun ec29 => ?_)
        · simp only [e29, e22, Bool.and_eq_true, Bool.or_eq_true, Bool.and_eq_false_iff, Bool.or_eq_false_iff, decide_eq_true_eq, decide_eq_false_iff_not, Bool.not_eq_true', Bool.not_eq_false', Bool.not_true, Bool.not_false, eq_self] at ec29
          have ec := ec29
          refine c_lregion ?_
          refine st1 h rfl rfl rfl (v_move rfl) fun a h => ?_
          refine st1 h rfl rfl rfl (v_add rfl rfl (wi (by omega))) fun a h => ?_
          refine st1 h rfl rfl rfl (v_assign rfl) fun a h => ?_
          refine c_lnil ?_
          refine hN15 _ _ ?_
          refine c_lregion ?_
          refine st1 h rfl rfl rfl (v_add rfl rfl (wi (by omega))) fun a h => ?_
          refine st1 h rfl rfl rfl (v_move rfl) fun a h => ?_
          refine c_lnil ?_
          refine hN12 _ _ _ ?_ ⟨i + 1, _, rfl, ?_, (h.only [2, 3, 5, 6, 19, 20, 21] (l' := [(2, _), (3, _), (5, _), (6, _), (19, _), (20, _), (21, _)]) rfl), H⟩
          · omega
          · exact ⟨by omega, by rw [hn, cnt_step i (cmpV x y) (by omega), if_pos ec29], hr19⟩
        · simp only [e29, e22, Bool.and_eq_true, Bool.or_eq_true, Bool.and_eq_false_iff, Bool.or_eq_false_iff, decide_eq_true_eq, decide_eq_false_iff_not, Bool.not_eq_true', Bool.not_eq_false', Bool.not_true, Bool.not_false, eq_self] at ec29
          have ec := ec29
          refine c_skip ?_
          refine hN15 _ _ ?_
          refine c_lregion ?_
          refine st1 h rfl rfl rfl (v_add rfl rfl (wi (by omega))) fun a h => ?_
          refine st1 h rfl rfl rfl (v_move rfl) fun a h => ?_
          refine c_lnil ?_
          refine hN12 _ _ _ ?_ ⟨i + 1, _, rfl, ?_, (h.only [2, 3, 5, 6, 19, 20, 21] (l' := [(2, _), (3, _), (5, _), (6, _), (19, _), (20, _), (21, _)]) rfl), H⟩
          · omega
          · exact ⟨by omega, by rw [hn, cnt_step i (cmpV x y) (by omega), if_neg (by rw [ec29]; decide), Int.add_zero], hr19⟩
      · simp only [e22, Bool.and_eq_true, Bool.or_eq_true, Bool.and_eq_false_iff, Bool.or_eq_false_iff, decide_eq_true_eq, decide_eq_false_iff_not, Bool.not_eq_true', Bool.not_eq_false', Bool.not_true, Bool.not_false, eq_self] at ec22
        have ec := ec22
        refine c_exit ?_
        refine hx0_14 _ _ ?_
        refine hN9 _ _ ?_
        have h := h.only [2, 3, 5, 6] (l' := [(2, _), (3, _), (5, _), (6, _)]) rfl
        clear hr19
        refine c_quiet (by kernel_rfl) (by kernel_rfl) ?_
        refine q1 h rfl rfl rfl (fun w X => v_move rfl) fun a h => ?_
        refine q1b h rfl rfl rfl (fun w X => v_eq rfl rfl) fun b34 e34 a h => ?_
        refine q1 h rfl rfl rfl (fun w X => v_move rfl) fun a h => ?_
        refine q_g h rfl rfl (gT rfl) rfl rfl (fun e0 w X => v_move rfl) fun a h => ?_
        refine q_g h rfl rfl (gT rfl) rfl rfl (fun e0 w X => have H := H.ext X; v_loadA [_, _, _] rfl Tryd.isAgg23 Tryd.sizeOf23 (H.get 0 rfl) rfl rfl) fun a h => ?_
        refine q_g h rfl rfl (gT rfl) rfl rfl (fun e0 w X => have H := H.ext X; v_loadA [_, _, _] rfl Tryd.isAgg23 Tryd.sizeOf23 (H.get 1 rfl) rfl rfl) fun a h => ?_
        refine q_gdb h rfl rfl (gT rfl) rfl rfl (fun e0 w X => q_callV [_, _, _] (eg e0 rfl) (evs_c rfl (evs_c (eg e0 rfl) (evs_c (eg e0 rfl) evs_n))) Tryd.call7 [_, _, _] rfl X (is_ok 8 x y _ (by decide) hx hy)) fun b39 e39 a h => ?_
        refine q_g h rfl rfl (gT rfl) rfl rfl (fun e0 w X => v_move rfl) fun a h => ?_
        refine q_g h rfl rfl (gT rfl) rfl rfl (fun e0 w X => have H := H.ext X; v_loadA [_, _, _] rfl Tryd.isAgg23 Tryd.sizeOf23 (H.get 1 rfl) rfl rfl) fun a h => ?_
        refine q_g h rfl rfl (gT rfl) rfl rfl (fun e0 w X => have H := H.ext X; v_loadA [_, _, _] rfl Tryd.isAgg23 Tryd.sizeOf23 (H.get 0 rfl) rfl rfl) fun a h => ?_
        refine q_gdb h rfl rfl (gT rfl) rfl rfl (fun e0 w X => q_callV [_, _, _] (eg e0 rfl) (evs_c rfl (evs_c (eg e0 rfl) (evs_c (eg e0 rfl) evs_n))) Tryd.call7 [_, _, _] rfl X (is_ok 10 y x _ (by decide) hy hx)) fun b43 e43 a h => ?_
        refine q_gb h rfl rfl (gT rfl) rfl rfl (fun e0 w X => v_beq Tryd.underlying4 (eg e0 rfl) (eg e0 rfl)) fun b44 e44 a h => ?_
        refine q1b h rfl rfl rfl (fun w X => v_and rfl rfl) fun b45 e45 a h => ?_
        refine q1 h rfl rfl rfl (fun w X => v_move rfl) fun a h => ?_
        refine q_g h rfl rfl (gT rfl) rfl rfl (fun e0 w X => v_move rfl) fun a h => ?_
        refine q_g h rfl rfl (gT rfl) rfl rfl (fun e0 w X => have H := H.ext X; v_loadA [_, _, _] rfl Tryd.isAgg23 Tryd.sizeOf23 (H.get 0 rfl) rfl rfl) fun a h => ?_
        refine q_g h rfl rfl (gT rfl) rfl rfl (fun e0 w X => have H := H.ext X; v_loadA [_, _, _] rfl Tryd.isAgg23 Tryd.sizeOf23 (H.get 1 rfl) rfl rfl) fun a h => ?_
        refine q_gdb h rfl rfl (gT rfl) rfl rfl (fun e0 w X => q_callV [_, _, _] (eg e0 rfl) (evs_c rfl (evs_c (eg e0 rfl) (evs_c (eg e0 rfl) evs_n))) Tryd.call7 [_, _, _] rfl X (is_ok 7 x y _ (by decide) hx hy)) fun b50 e50 a h => ?_
        refine q_g h rfl rfl (gT rfl) rfl rfl (fun e0 w X => v_move rfl) fun a h => ?_
        refine q_g h rfl rfl (gT rfl) rfl rfl (fun e0 w X => have H := H.ext X; v_loadA [_, _, _] rfl Tryd.isAgg23 Tryd.sizeOf23 (H.get 0 rfl) rfl rfl) fun a h => ?_
        refine q_g h rfl rfl (gT rfl) rfl rfl (fun e0 w X => have H := H.ext X; v_loadA [_, _, _] rfl Tryd.isAgg23 Tryd.sizeOf23 (H.get 1 rfl) rfl rfl) fun a h => ?_
        refine q_gdb h rfl rfl (gT rfl) rfl rfl (fun e0 w X => q_callV [_, _, _] (eg e0 rfl) (evs_c rfl (evs_c (eg e0 rfl) (evs_c (eg e0 rfl) evs_n))) Tryd.call7 [_, _, _] rfl X (is_ok 6 x y _ (by decide) hx hy)) fun b54 e54 a h => ?_
        refine q_gb h rfl rfl (gT rfl) rfl rfl (fun e0 w X => v_bne Tryd.underlying4 (eg e0 rfl) (eg e0 rfl)) fun b55 e55 a h => ?_
        refine q1b h rfl rfl rfl (fun w X => v_and rfl rfl) fun b56 e56 a h => ?_
        refine q1 h rfl rfl rfl (fun w X => v_move rfl) fun a h => ?_
        refine q_g h rfl rfl (gT rfl) rfl rfl (fun e0 w X => v_move rfl) fun a h => ?_
        refine q_g h rfl rfl (gT rfl) rfl rfl (fun e0 w X => have H := H.ext X; v_loadA [_, _, _] rfl Tryd.isAgg23 Tryd.sizeOf23 (H.get 0 rfl) rfl rfl) fun a h => ?_
        refine q_g h rfl rfl (gT rfl) rfl rfl (fun e0 w X => have H := H.ext X; v_loadA [_, _, _] rfl Tryd.isAgg23 Tryd.sizeOf23 (H.get 1 rfl) rfl rfl) fun a h => ?_
        refine q_gdb h rfl rfl (gT rfl) rfl rfl (fun e0 w X => q_callV [_, _, _] (eg e0 rfl) (evs_c rfl (evs_c (eg e0 rfl) (evs_c (eg e0 rfl) evs_n))) Tryd.call7 [_, _, _] rfl X (is_ok 9 x y _ (by decide) hx hy)) fun b61 e61 a h => ?_
        refine q_g h rfl rfl (gT rfl) rfl rfl (fun e0 w X => v_move rfl) fun a h => ?_
        refine q_g h rfl rfl (gT rfl) rfl rfl (fun e0 w X => have H := H.ext X; v_loadA [_, _, _] rfl Tryd.isAgg23 Tryd.sizeOf23 (H.get 0 rfl) rfl rfl) fun a h => ?_
        refine q_g h rfl rfl (gT rfl) rfl rfl (fun e0 w X => have H := H.ext X; v_loadA [_, _, _] rfl Tryd.isAgg23 Tryd.sizeOf23 (H.get 1 rfl) rfl rfl) fun a h => ?_
        refine q_gdb h rfl rfl (gT rfl) rfl rfl (fun e0 w X => q_callV [_, _, _] (eg e0 rfl) (evs_c rfl (evs_c (eg e0 rfl) (evs_c (eg e0 rfl) evs_n))) Tryd.call7 [_, _, _] rfl X (is_ok 10 x y _ (by decide) hx hy)) fun b65 e65 a h => ?_
        refine q_gb h rfl rfl (gT rfl) rfl rfl (fun e0 w X => v_bne Tryd.underlying4 (eg e0 rfl) (eg e0 rfl)) fun b66 e66 a h => ?_
        refine q1b h rfl rfl rfl (fun w X => v_and rfl rfl) fun b67 e67 a h => ?_
        refine q1 h rfl rfl rfl (fun w X => v_move rfl) fun a h => ?_
        refine q_g h rfl rfl (gT rfl) rfl rfl (fun e0 w X => v_move rfl) fun a h => ?_
        refine q_g h rfl rfl (gT rfl) rfl rfl (fun e0 w X => have H := H.ext X; v_loadA [_, _, _] rfl Tryd.isAgg23 Tryd.sizeOf23 (H.get 0 rfl) rfl rfl) fun a h => ?_
        refine q_g h rfl rfl (gT rfl) rfl rfl (fun e0 w X => have H := H.ext X; v_loadA [_, _, _] rfl Tryd.isAgg23 Tryd.sizeOf23 (H.get 1 rfl) rfl rfl) fun a h => ?_
        refine q_gdb h rfl rfl (gT rfl) rfl rfl (fun e0 w X => q_callV [_, _, _] (eg e0 rfl) (evs_c rfl (evs_c (eg e0 rfl) (evs_c (eg e0 rfl) evs_n))) Tryd.call7 [_, _, _] rfl X (is_ok 11 x y _ (by decide) hx hy)) fun b72 e72 a h => ?_
        refine q_g h rfl rfl (gT rfl) rfl rfl (fun e0 w X => v_move rfl) fun a h => ?_
        refine q_g h rfl rfl (gT rfl) rfl rfl (fun e0 w X => have H := H.ext X; v_loadA [_, _, _] rfl Tryd.isAgg23 Tryd.sizeOf23 (H.get 0 rfl) rfl rfl) fun a h => ?_
        refine q_g h rfl rfl (gT rfl) rfl rfl (fun e0 w X => have H := H.ext X; v_loadA [_, _, _] rfl Tryd.isAgg23 Tryd.sizeOf23 (H.get 1 rfl) rfl rfl) fun a h => ?_
        refine q_gdb h rfl rfl (gT rfl) rfl rfl (fun e0 w X => q_callV [_, _, _] (eg e0 rfl) (evs_c rfl (evs_c (eg e0 rfl) (evs_c (eg e0 rfl) evs_n))) Tryd.call7 [_, _, _] rfl X (is_ok 8 x y _ (by decide) hx hy)) fun b76 e76 a h => ?_
        refine q_gb h rfl rfl (gT rfl) rfl rfl (fun e0 w X => v_bne Tryd.underlying4 (eg e0 rfl) (eg e0 rfl)) fun b77 e77 a h => ?_
        refine q1b h rfl rfl rfl (fun w X => v_and rfl rfl) fun b78 e78 a h => ?_
        refine q1 h rfl rfl rfl (fun w X => v_move rfl) fun a h => ?_
        refine q_g h rfl rfl (gT rfl) rfl rfl (fun e0 w X => have H := H.ext X; v_loadA [_, _, _] rfl Tryd.isAgg23 Tryd.sizeOf23 (H.get 0 rfl) rfl rfl) fun a h => ?_
        refine q_g h rfl rfl (gT rfl) rfl rfl (fun e0 w X => have H := H.ext X; v_loadA [_, _, _] rfl Tryd.isAgg23 Tryd.sizeOf23 (H.get 0 rfl) rfl rfl) fun a h => ?_
        refine q_gd h rfl rfl (gT rfl) rfl rfl (fun e0 w X => q_call [_, _, _] (evs_c rfl (evs_c (eg e0 rfl) (evs_c (eg e0 rfl) evs_n))) Tryd.call8 X (bincmp_ok 6 x x _ (by decide) hx hx)) fun a h => ?_
        refine q_gd h rfl rfl (gT rfl) rfl rfl (fun e0 w X => q_call [_] rfl Tryd.call9 X (bool_ok true _)) fun a h => ?_
        refine q_gb h rfl rfl (gT rfl) rfl rfl (fun e0 w X => v_aggeq (eg e0 rfl) (eg e0 rfl) age23 (agq23 _ _ _ _ _ _)) fun b84 e84 a h => ?_
        refine q1b h rfl rfl rfl (fun w X => v_and rfl rfl) fun b85 e85 a h => ?_
        refine q1 h rfl rfl rfl (fun w X => v_assign rfl) fun a h => ?_
        refine qn ?_
        intro w X
        have H := H.ext X
        have h := h.only [4] (l' := [(4, _)]) rfl
        refine c_ret (hret0 _ _ (out1 h rfl rfl ?_))
        refine ⟨?_, H.out⟩
        have hi3 : i = 3 := by omega
        subst hi3
        subst_vars
        refine congrArg _ ?_
        rw [cnt_all, cmpV_flip x y, cmpV_self]
        generalize cmpV x y = c
        rcases (show c < 0 ∨ c = 0 ∨ 0 < c by omega) with h9 | h9 | h9
        · simp [cmpAt, boolV, h9, show ¬ c = 0 by omega, show ¬ 0 < c by omega, show c ≤ 0 by omega, show ¬ 0 ≤ c by omega]
        · subst h9
          decide
        · simp [cmpAt, boolV, h9, show ¬ c = 0 by omega, show ¬ c < 0 by omega, show 0 ≤ c by omega, show ¬ c ≤ 0 by omega]

end Go.Proofs.YtmfblggkgmgccaaDoor
