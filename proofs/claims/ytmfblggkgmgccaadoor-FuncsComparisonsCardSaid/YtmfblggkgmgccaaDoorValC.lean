/- Walks of the functions of package value, further. -/
import Derived.Test.YtmfblggkgmgccaaDoorF
import Derived.Test.YtmfblggkgmgccaaDoorValPlain
import Derived.Test.YtmfblggkgmgccaaDoorValB
import Derived.Test.YtmfblggkgmgccaaDoorShelf
set_option linter.unusedSimpArgs false
set_option linter.unusedVariables false
set_option linter.unusedSectionVars false
namespace Go.Proofs.YtmfblggkgmgccaaDoor
open Go.Stp Go.RowKit Go.ValP
theorem show_num (n c : Int) (w0 : World) (hn : n = c * 1000000) (hc : 0 ≤ c ∧ c ≤ 1) : Calls Tryd.prog 12 [.agg #[.int .i64 1, .int .i64 n, S []]].toArray w0 (Ret fun v w => v = S [UInt8.ofNat (48 + c).toNat] ∧ Ext w0 w) := by
  subst hn
  refine enter Tryd.func12 rfl rfl rfl fun Q a h hret0 hnor => ?_
  have H := Hp.start w0
  have h := h.only [0] (l' := [(0, _)]) rfl
  refine c_region fun K hK => ?_
  refine st_box h H rfl [_, _, _] rfl rfl fun a p1 w x1 X H h => ?_
  refine st1 h rfl rfl rfl (v_assign rfl) fun a h => ?_
  refine c_nil hK ?_
  refine c_seq _ (fun a w c => c) fun Q2 hN2 hO2 => ?_
  have hret2 := hO2.ret hret0
  refine c_region fun K hK => ?_
  refine st1 h rfl rfl rfl (v_fieldAddr rfl Tryd.underlying23 rfl Tryd.sizeOf3 rfl rfl) fun a h => ?_
  refine st1 h rfl rfl rfl (v_load1 rfl Tryd.isAgg3 (H.get 0 rfl) rfl) fun a h => ?_
  refine c_nil hK ?_
  refine c_lblock fun Q4 hN4 hx0_4 hO4 => ?_
  have hret4 := hO4.ret hret2
  refine c_region fun K hK => ?_
  refine st1b h rfl rfl rfl (v_eq rfl rfl) fun b6 e6 a h => ?_
  refine st1 h rfl rfl rfl (v_assign rfl) fun a h => ?_
  refine c_nil hK ?_
  have h := h.only [1, 4, 5] (l' := [(1, _), (4, _), (5, _)]) rfl
  refine c_cond h rfl (fun ec5 => ?_) (fun ec5 => ?_)
  · have ec := ec5
    skip
    refine c_region fun K hK => ?_
    refine st1 h rfl rfl rfl (v_fieldAddr rfl Tryd.underlying23 rfl Tryd.sizeOf2 rfl rfl) fun a h => ?_
    refine st1 h rfl rfl rfl (v_load1 rfl Tryd.isAgg2 (H.get 0 rfl) rfl) fun a h => ?_
    refine st2v (T := Ext) h rfl rfl rfl (d_call [_] rfl Tryd.call22 (print_ok c _ hc)) fun w X a h => ?_
    have H := H.ext X
    refine st1 h rfl rfl rfl (v_assign rfl) fun a h => ?_
    refine c_nil hK ?_
    have h := h.only [2] (l' := [(2, _)]) rfl
    refine c_ret (hret4 _ _ (out1 h rfl rfl ?_))
    exact ⟨rfl, H.out⟩
  · have ec := ec5
    exact absurd ec (by rw [e6]; decide)

theorem show_true  (w0 : World) : Calls Tryd.prog 12 [.agg #[.int .i64 3, .int .i64 1, S []]].toArray w0 (Ret fun v w => v = S [84, 82, 85, 69] ∧ Ext w0 w) := by
  refine enter Tryd.func12 rfl rfl rfl fun Q a h hret0 hnor => ?_
  have H := Hp.start w0
  have h := h.only [0] (l' := [(0, _)]) rfl
  refine c_region fun K hK => ?_
  refine st_box h H rfl [_, _, _] rfl rfl fun a p1 w x1 X H h => ?_
  refine st1 h rfl rfl rfl (v_assign rfl) fun a h => ?_
  refine c_nil hK ?_
  refine c_seq _ (fun a w c => c) fun Q2 hN2 hO2 => ?_
  have hret2 := hO2.ret hret0
  refine c_region fun K hK => ?_
  refine st1 h rfl rfl rfl (v_fieldAddr rfl Tryd.underlying23 rfl Tryd.sizeOf3 rfl rfl) fun a h => ?_
  refine st1 h rfl rfl rfl (v_load1 rfl Tryd.isAgg3 (H.get 0 rfl) rfl) fun a h => ?_
  refine c_nil hK ?_
  refine c_lblock fun Q4 hN4 hx0_4 hO4 => ?_
  have hret4 := hO4.ret hret2
  refine c_region fun K hK => ?_
  refine st1b h rfl rfl rfl (v_eq rfl rfl) fun b6 e6 a h => ?_
  refine st1 h rfl rfl rfl (v_assign rfl) fun a h => ?_
  refine c_nil hK ?_
  have h := h.only [1, 4, 5] (l' := [(1, _), (4, _), (5, _)]) rfl
  refine c_cond h rfl (fun ec5 => ?_) (fun ec5 => ?_)
  · have ec := ec5
    exact absurd ec (by rw [e6]; decide)
  · have ec := ec5
    skip
    refine c_region fun K hK => ?_
    refine st1b h rfl rfl rfl (v_eq rfl rfl) fun b11 e11 a h => ?_
    refine st1 h rfl rfl rfl (v_assign rfl) fun a h => ?_
    refine c_nil hK ?_
    refine c_cond h rfl (fun ec10 => ?_) (fun ec10 => ?_)
    · have ec := ec10
      exact absurd ec (by rw [e11]; decide)
    · have ec := ec10
      skip
      refine c_region fun K hK => ?_
      refine st1b h rfl rfl rfl (v_eq rfl rfl) fun b15 e15 a h => ?_
      refine st1 h rfl rfl rfl (v_assign rfl) fun a h => ?_
      refine c_nil hK ?_
      have h := h.only [1, 4, 14] (l' := [(1, _), (4, _), (14, _)]) rfl
      refine c_cond h rfl (fun ec14 => ?_) (fun ec14 => ?_)
      · have ec := ec14
        skip
        refine c_seq _ (fun a w c => c) fun Q8 hN8 hO8 => ?_
        have hret8 := hO8.ret hret4
        have hx0_8 := hO8.exit (i := 0) rfl hx0_4
        refine c_region fun K hK => ?_
        refine st1 h rfl rfl rfl (v_fieldAddr rfl Tryd.underlying23 rfl Tryd.sizeOf2 rfl rfl) fun a h => ?_
        refine st1 h rfl rfl rfl (v_load1 rfl Tryd.isAgg2 (H.get 0 rfl) rfl) fun a h => ?_
        refine st1b h rfl rfl rfl (v_eq rfl rfl) fun b18 e18 a h => ?_
        refine c_nil hK ?_
        have h := h.only [18] (l' := [(18, _)]) rfl
        refine c_cond h rfl (fun ec18 => ?_) (fun ec18 => ?_)
        · have ec := ec18
          skip
          refine c_region fun K hK => ?_
          refine st1 h rfl rfl rfl (v_assign rfl) fun a h => ?_
          refine c_nil hK ?_
          refine c_ret (hret8 _ _ (out1 h rfl rfl ?_))
          exact ⟨rfl, H.out⟩
        · have ec := ec18
          exact absurd ec (by rw [e18]; decide)
      · have ec := ec14
        exact absurd ec (by rw [e15]; decide)

theorem bincat_ok  (w0 : World) : Calls Tryd.prog 8 [.int .i64 5, .agg #[.int .i64 1, .int .i64 1000000, S []], .agg #[.int .i64 3, .int .i64 1, S []]].toArray w0 (Ret fun v w => v = vV (textV [49, 84, 82, 85, 69]) ∧ Ext w0 w) := by
  refine enter Tryd.func8 rfl rfl rfl fun Q a h hret0 hnor => ?_
  have H := Hp.start w0
  have h := h.only [0, 1, 2] (l' := [(0, _), (1, _), (2, _)]) rfl
  refine c_region fun K hK => ?_
  refine st_box h H rfl [_, _, _] rfl rfl fun a p4 w x4 X H h => ?_
  refine st_box h H rfl [_, _, _] rfl rfl fun a p5 w x5 X H h => ?_
  refine st_alloc h H Tryd.zeroValue23 [_, _, _] rfl rfl fun a p6 w x6 X H h => ?_
  refine c_nil hK ?_
  refine c_block _ (fun a w c => c) fun Q2 hN2 hx0_2 hO2 => ?_
  have hret2 := hO2.ret hret0
  refine c_region fun K hK => ?_
  refine st1 h rfl rfl rfl (v_move rfl) fun a h => ?_
  refine st1b h rfl rfl rfl (v_ge rfl rfl) fun b12 e12 a h => ?_
  refine st1 h rfl rfl rfl (v_assign rfl) fun a h => ?_
  refine c_nil hK ?_
  have h := h.only [0, 4, 5, 6, 10] (l' := [(0, _), (4, _), (5, _), (6, _), (10, _)]) rfl
  refine c_cond h rfl (fun ec10 => ?_) (fun ec10 => ?_)
  · have ec := ec10
    exact absurd ec (by rw [e12]; decide)
  · have ec := ec10
    skip
    refine c_region fun K hK => ?_
    refine st1 h rfl rfl rfl (v_move rfl) fun a h => ?_
    refine st1b h rfl rfl rfl (v_eq rfl rfl) fun b35 e35 a h => ?_
    refine st1 h rfl rfl rfl (v_assign rfl) fun a h => ?_
    refine c_nil hK ?_
    refine c_cond h rfl (fun ec33 => ?_) (fun ec33 => ?_)
    · have ec := ec33
      skip
      refine c_tail H 6 [] rfl (by kernel_rfl) (by kernel_rfl) fun K hK pi1 hpi1 => ?_
      refine t1 h rfl rfl rfl rfl (fun w X => have H := H.ext X; v_loadA [_, _, _] rfl Tryd.isAgg23 Tryd.sizeOf23 (H.get 0 rfl) rfl rfl) fun a h => ?_
      refine t2 h rfl rfl rfl rfl (fun w X => t_call [_] rfl Tryd.call12 ni12 (show_num 1000000 1 _ (by decide) (by decide))) fun a h => ?_
      refine t1 h rfl rfl rfl rfl (fun w X => have H := H.ext X; v_loadA [_, _, _] rfl Tryd.isAgg23 Tryd.sizeOf23 (H.get 1 rfl) rfl rfl) fun a h => ?_
      refine t2 h rfl rfl rfl rfl (fun w X => t_call [_] rfl Tryd.call12 ni12 (show_true _)) fun a h => ?_
      refine t1 h rfl rfl rfl rfl (fun w X => v_sadd rfl rfl (by first | omega | (simp only [cutS_length, List.length_append, List.length_cons, List.length_nil]; omega))) fun a h => ?_
      refine t2 h rfl rfl rfl rfl (fun w X => t_call [_] rfl Tryd.call11 ni11 (text_ok _ _)) fun a h => ?_
      refine tn ?_
      intro w X H
      have H : Hp w0 [_, _, _] w := H
      refine st_store h H 2 rfl rfl rfl Tryd.sizeOf23 [_, _, _] rfl rfl rfl (by simp) [_, _, _] rfl (hl' := [_, _, _]) rfl fun w H hz hs => ?_
      refine c_nil hK ?_
      have h := h.only [6] (l' := [(6, _)]) rfl
      refine c_ret (hret2 _ _ (out1 h rfl ⟨_, rfl, run_loadVar_agg (vs := [_, _, _]) Tryd.isAgg23 Tryd.sizeOf23 (H.get 2 rfl) rfl rfl⟩ ?_))
      exact ⟨rfl, H.out⟩
    · have ec := ec33
      exact absurd ec (by rw [e35]; decide)

theorem bincmp_ok (op : Int) (x y : V) (w0 : World) (ho : 6 ≤ op ∧ op ≤ 11) (hx : 0 ≤ x.k ∧ x.k ≤ 3) (hy : 0 ≤ y.k ∧ y.k ≤ 3) : Calls Tryd.prog 8 [.int .i64 op, .agg #[.int .i64 x.k, .int .i64 x.n, S x.s], .agg #[.int .i64 y.k, .int .i64 y.n, S y.s]].toArray w0 (Ret fun v w => v = vV (boolV (cmpAt op (cmpV x y))) ∧ Ext w0 w) := by
  refine enter Tryd.func8 rfl rfl rfl fun Q a h hret0 hnor => ?_
  have H := Hp.start w0
  have h := h.only [0, 1, 2] (l' := [(0, _), (1, _), (2, _)]) rfl
  refine c_region fun K hK => ?_
  refine st_box h H rfl [_, _, _] rfl rfl fun a p4 w x4 X H h => ?_
  refine st_box h H rfl [_, _, _] rfl rfl fun a p5 w x5 X H h => ?_
  refine st_alloc h H Tryd.zeroValue23 [_, _, _] rfl rfl fun a p6 w x6 X H h => ?_
  refine c_nil hK ?_
  refine c_block _ (fun a w c => c) fun Q2 hN2 hx0_2 hO2 => ?_
  have hret2 := hO2.ret hret0
  refine c_region fun K hK => ?_
  refine st1 h rfl rfl rfl (v_move rfl) fun a h => ?_
  refine st1b h rfl rfl rfl (v_ge rfl rfl) fun b12 e12 a h => ?_
  refine st1 h rfl rfl rfl (v_assign rfl) fun a h => ?_
  refine c_nil hK ?_
  have h := h.only [0, 4, 5, 6, 10] (l' := [(0, _), (4, _), (5, _), (6, _), (10, _)]) rfl
  refine c_cond h rfl (fun ec10 => ?_) (fun ec10 => ?_)
  · have ec := ec10
    skip
    refine c_region fun K hK => ?_
    refine st1 h rfl rfl rfl (v_loadA [_, _, _] rfl Tryd.isAgg23 Tryd.sizeOf23 (H.get 0 rfl) rfl rfl) fun a h => ?_
    refine st1 h rfl rfl rfl (v_loadA [_, _, _] rfl Tryd.isAgg23 Tryd.sizeOf23 (H.get 1 rfl) rfl rfl) fun a h => ?_
    refine st2v (T := Ext) h rfl rfl rfl (d_call [_, _] rfl Tryd.call10 (compare_ok x y _ hx hy)) fun w X a h => ?_
    have H := H.ext X
    refine st1 h rfl rfl rfl (v_assign rfl) fun a h => ?_
    refine c_nil hK ?_
    have h := h.only [0, 6, 7] (l' := [(0, _), (6, _), (7, _)]) rfl
    refine c_region fun K hK => ?_
    refine st1 h rfl rfl rfl (v_move rfl) fun a h => ?_
    refine st1b h rfl rfl rfl (v_eq rfl rfl) fun b17 e17 a h => ?_
    refine st1 h rfl rfl rfl (v_move rfl) fun a h => ?_
    refine st1b h rfl rfl rfl (v_ne rfl rfl) fun b19 e19 a h => ?_
    refine st1 h rfl rfl rfl (v_move rfl) fun a h => ?_
    refine st1b h rfl rfl rfl (v_lt rfl rfl) fun b21 e21 a h => ?_
    refine st1 h rfl rfl rfl (v_move rfl) fun a h => ?_
    refine st1b h rfl rfl rfl (v_le rfl rfl) fun b23 e23 a h => ?_
    refine st1 h rfl rfl rfl (v_move rfl) fun a h => ?_
    refine st1b h rfl rfl rfl (v_gt rfl rfl) fun b25 e25 a h => ?_
    refine st1 h rfl rfl rfl (v_move rfl) fun a h => ?_
    refine st1b h rfl rfl rfl (v_ge rfl rfl) fun b27 e27 a h => ?_
    refine st1 h rfl rfl rfl (v_build bld42 [_, _, _, _, _, _] [_, _, _, _, _, _] rfl rfl) fun a h => ?_
    refine st1 h rfl rfl rfl (v_move rfl) fun a h => ?_
    refine st1 h rfl rfl rfl (v_sub rfl rfl (wi (by omega))) fun a h => ?_
    refine st1 h rfl rfl rfl (v_idxArr (V := .bool (cmpAt op (cmpV x y))) Tryd.underlying42 Tryd.sizeOf4 Tryd.isAgg4 rfl rfl (by simp; omega) (by rw [e17, e19, e21, e23, e25, e27]; exact cmp_get op (cmpV x y) (by omega))) fun a h => ?_
    refine st2v (T := Ext) h rfl rfl rfl (d_call [_] rfl Tryd.call9 (bool_ok (cmpAt op (cmpV x y)) _)) fun w X a h => ?_
    have H := H.ext X
    refine st_store h H 2 rfl rfl rfl Tryd.sizeOf23 [_, _, _] rfl rfl rfl (by simp) [_, _, _] rfl (hl' := [_, _, _]) rfl fun w H hz hs => ?_
    refine c_nil hK ?_
    have h := h.only [6] (l' := [(6, _)]) rfl
    refine c_ret (hret2 _ _ (out1 h rfl ⟨_, rfl, run_loadVar_agg (vs := [_, _, _]) Tryd.isAgg23 Tryd.sizeOf23 (H.get 2 rfl) rfl rfl⟩ ?_))
    exact ⟨rfl, H.out⟩
  · have ec := ec10
    exact absurd ec (by rw [e12]; simp; omega)

theorem is_ok (op : Int) (x y : V) (w0 : World) (ho : 6 ≤ op ∧ op ≤ 11) (hx : 0 ≤ x.k ∧ x.k ≤ 3) (hy : 0 ≤ y.k ∧ y.k ≤ 3) : Calls Tryd.prog 7 [.int .i64 op, .agg #[.int .i64 x.k, .int .i64 x.n, S x.s], .agg #[.int .i64 y.k, .int .i64 y.n, S y.s]].toArray w0 (Ret fun v w => v = .bool (cmpAt op (cmpV x y)) ∧ Ext w0 w) := by
  refine enter Tryd.func7 rfl rfl rfl fun Q a h hret0 hnor => ?_
  have H := Hp.start w0
  have h := h.only [0, 1, 2] (l' := [(0, _), (1, _), (2, _)]) rfl
  refine c_region fun K hK => ?_
  refine st_box h H rfl [_, _, _] rfl rfl fun a p4 w x4 X H h => ?_
  refine st_box h H rfl [_, _, _] rfl rfl fun a p5 w x5 X H h => ?_
  refine st1 h rfl rfl rfl (v_assign rfl) fun a h => ?_
  refine c_nil hK ?_
  refine c_region fun K hK => ?_
  refine st1 h rfl rfl rfl (v_move rfl) fun a h => ?_
  refine st1 h rfl rfl rfl (v_loadA [_, _, _] rfl Tryd.isAgg23 Tryd.sizeOf23 (H.get 0 rfl) rfl rfl) fun a h => ?_
  refine st1 h rfl rfl rfl (v_loadA [_, _, _] rfl Tryd.isAgg23 Tryd.sizeOf23 (H.get 1 rfl) rfl rfl) fun a h => ?_
  refine st2v (T := Ext) h rfl rfl rfl (d_call [_, _, _] rfl Tryd.call8 (bincmp_ok op x y _ ho hx hy)) fun w X a h => ?_
  have H := H.ext X
  refine st2v (T := Ext) h rfl rfl rfl (d_call [_] rfl Tryd.call9 (bool_ok true _)) fun w X a h => ?_
  have H := H.ext X
  refine st1b h rfl rfl rfl (v_aggeq rfl rfl age23 (agq23 _ _ _ _ _ _)) fun b12 e12 a h => ?_
  refine st1 h rfl rfl rfl (v_assign rfl) fun a h => ?_
  refine c_nil hK ?_
  have h := h.only [6] (l' := [(6, _)]) rfl
  refine c_ret (hret0 _ _ (out1 h rfl rfl ?_))
  refine ⟨?_, H.out⟩
  subst_vars
  unfold boolV
  cases cmpAt op (cmpV x y) <;> rfl

theorem fit_ok  (w0 : World) : Calls Tryd.prog 5 [].toArray w0 (Ret fun v w => v = .bool true ∧ Ext w0 w) := by
  refine enter Tryd.func5 rfl rfl rfl fun Q a h hret0 hnor => ?_
  have H := Hp.start w0
  have h := h.only [] (l' := []) rfl
  refine c_region fun K hK => ?_
  refine st1 h rfl rfl rfl (v_assign rfl) fun a h => ?_
  refine c_nil hK ?_
  refine c_region fun K hK => ?_
  refine st2v (T := Ext) h rfl rfl rfl (d_call [_] rfl Tryd.call21 (num_ok 1000000 _)) fun w X a h => ?_
  have H := H.ext X
  refine st2v (T := Ext) h rfl rfl rfl (d_call [_] rfl Tryd.call9 (bool_ok true _)) fun w X a h => ?_
  have H := H.ext X
  refine st2v (T := Ext) h rfl rfl rfl (d_call [_, _, _] rfl Tryd.call8 (bincat_ok _)) fun w X a h => ?_
  have H := H.ext X
  refine st2v (T := Ext) h rfl rfl rfl (d_call [_] rfl Tryd.call11 (text_ok [49, 84, 82, 85, 69] _)) fun w X a h => ?_
  have H := H.ext X
  refine st1b h rfl rfl rfl (v_aggeq rfl rfl age23 (agq23 _ _ _ _ _ _)) fun b5 e5 a h => ?_
  refine st1 h rfl rfl rfl (v_move rfl) fun a h => ?_
  refine st_gd (T := Ext) h rfl rfl (gT rfl) rfl rfl (Ext.refl _) (fun e0 => d_call [_] rfl Tryd.call22 (print_ok 0 _ (by decide))) fun w X a h => ?_
  have H := H.ext X
  refine st_gb h rfl rfl (gT rfl) rfl rfl (fun e0 => v_seq (eg e0 rfl) rfl) fun b8 e8 a h => ?_
  refine st1b h rfl rfl rfl (v_and rfl rfl) fun b9 e9 a h => ?_
  refine st1 h rfl rfl rfl (v_assign rfl) fun a h => ?_
  refine c_nil hK ?_
  have h := h.only [0] (l' := [(0, _)]) rfl
  refine c_ret (hret0 _ _ (out1 h rfl rfl ?_))
  refine ⟨?_, H.out⟩
  subst_vars
  rfl

end Go.Proofs.YtmfblggkgmgccaaDoor
