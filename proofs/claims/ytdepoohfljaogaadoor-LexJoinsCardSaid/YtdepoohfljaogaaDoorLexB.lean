/- Walks of the functions of package lex, further. -/
import Derived.Test.YtdepoohfljaogaaDoorF
import Derived.Test.YtdepoohfljaogaaDoorLexPlain
import Derived.Test.YtdepoohfljaogaaDoorLexA
import Derived.Test.YtdepoohfljaogaaDoorShelf
set_option linter.unusedSimpArgs false
set_option linter.unusedVariables false
set_option linter.unusedSectionVars false
namespace Go.Proofs.YtdepoohfljaogaaDoor
open Go.Stp Go.RowKit Go.LexP
/-- What the library's own table holds. -/
def GF (w : World) : Prop := Lib.TabIs Tryd.prog w "strings.asciiSpace" .u8 Lib.asciiSpaceTab
theorem GF.ext {w w' : World} (h : GF w) (X : Ext w w') : GF w' := by
  have hg : Tryd.prog.globalNamed "strings.asciiSpace" = some 0 := by kernel_rfl
  have hc := World.var?_cell hg h 0
  have hlt : 0 < w.heap.size := by
    have h1 : ((Lib.asciiSpaceTab.map fun z => Value.int .u8 z).toArray)[0]? = some (.int .u8 (Lib.asciiSpaceTab.getD 0 0)) := by
      have := Lib.asciiSpaceTab_length
      simp [List.getD, show 0 < Lib.asciiSpaceTab.length by omega]
    rw [h1] at hc
    exact World.block_lt_of_cell? w _ hc
  exact var?_below X hg hlt h
theorem fields_ok (l : List UInt8) (w : World) (hl : l.length < 4294967281) (ha : ∀ b ∈ l, b.toNat < 128) (hG : GF w) :
    Calls Tryd.prog 14 [S l].toArray w (Ret fun v w' => Reads w' v 1 (fun x => [S x]) (Lib.fields l) ∧ Ext w w') := by
  refine (Tryd.strings_Fields ⟨l.toArray⟩ w hl (fun j b h => ha b (List.mem_of_getElem? (by simpa using h))) hG).mono ?_
  rintro e w' ⟨rfl, rfl⟩
  refine ⟨.inr ⟨w.heap.size, 0, _, (Lib.fields l).map (fun x => S x), 9, (0, 0), rfl, heap_alloc_new w _, fun j u hu => ?_⟩, Ext.alloc _ _⟩
  rw [Nat.zero_add]
  have e : (Lib.fields l).flatMap (fun x => [S x]) = (Lib.fields l).map (fun x => S x) := by
    induction Lib.fields l with
    | nil => rfl
    | cons a r ih => simp [List.flatMap_cons, ih]
  rw [← e]
  exact hu
theorem hasPrefix_ok (l x : List UInt8) (w : World) : Calls Tryd.prog 18 [S l, S x].toArray w (Ret fun v w' => v = .bool (Lib.hasPrefix l x) ∧ Ext w w') := by
  refine (Tryd.strings_HasPrefix ⟨l.toArray⟩ ⟨x.toArray⟩ w).mono ?_
  rintro e w' ⟨rfl, rfl⟩
  exact ⟨rfl, Ext.refl _⟩

theorem ltext_ok (k at0 : Int) (s : List UInt8) (w0 : World) (hs : s.length ≤ 4611686018427387000) : Calls Tryd.prog 10 [.agg #[.int .i64 k, S s, .int .i64 at0]].toArray w0 (Ret fun v w => v = S (quote k s) ∧ Ext w0 w) := by
  refine enter Tryd.func10 rfl rfl rfl fun Q a h hret0 hnor => ?_
  have H := Hp.start w0
  have h := h.only [0] (l' := [(0, _)]) rfl
  refine c_region fun K hK => ?_
  refine st_box h H rfl [_, _, _] rfl rfl fun a p1 w x1 X H h => ?_
  refine st1 h rfl rfl rfl (v_assign rfl) fun a h => ?_
  refine c_nil hK ?_
  refine c_seq _ (fun a w c => c) fun Q2 hN2 hO2 => ?_
  have hret2 := hO2.ret hret0
  refine c_region fun K hK => ?_
  refine st1 h rfl rfl rfl (v_fieldAddr rfl Tryd.underlying28 rfl Tryd.sizeOf3 rfl rfl) fun a h => ?_
  refine st1 h rfl rfl rfl (v_load1 rfl Tryd.isAgg3 (H.get 0 rfl) rfl) fun a h => ?_
  refine st1b h rfl rfl rfl (v_ne rfl rfl) fun b7 e7 a h => ?_
  refine c_nil hK ?_
  have h := h.only [1, 7] (l' := [(1, _), (7, _)]) rfl
  refine c_cond h rfl (fun ec7 => ?_) (fun ec7 => ?_)
  · have ec := ec7
    simp only [e7, Bool.and_eq_true, Bool.or_eq_true, Bool.and_eq_false_iff, Bool.or_eq_false_iff, decide_eq_true_eq, decide_eq_false_iff_not, Bool.not_eq_true', Bool.not_eq_false', Bool.not_true, Bool.not_false, eq_self] at ec
    refine c_region fun K hK => ?_
    refine st1 h rfl rfl rfl (v_fieldAddr rfl Tryd.underlying28 rfl Tryd.sizeOf9 rfl rfl) fun a h => ?_
    refine st1 h rfl rfl rfl (v_load1 rfl Tryd.isAgg9 (H.get 0 rfl) rfl) fun a h => ?_
    refine st1 h rfl rfl rfl (v_assign rfl) fun a h => ?_
    refine c_nil hK ?_
    have h := h.only [2] (l' := [(2, _)]) rfl
    refine c_ret (hret2 _ _ (out1 h rfl rfl ?_))
    refine ⟨?_, H.out⟩
    simp [quote, ec]
  · have ec := ec7
    simp only [e7, Bool.and_eq_true, Bool.or_eq_true, Bool.and_eq_false_iff, Bool.or_eq_false_iff, decide_eq_true_eq, decide_eq_false_iff_not, Bool.not_eq_true', Bool.not_eq_false', Bool.not_true, Bool.not_false, eq_self] at ec
    have hk := ec
    refine c_skip ?_
    refine hN2 _ _ ?_
    refine c_region fun K hK => ?_
    refine st1 h rfl rfl rfl (v_assign rfl) fun a h => ?_
    refine c_nil hK ?_
    refine c_seq _ (fun a w c => c) fun Q6 hN6 hO6 => ?_
    have hret6 := hO6.ret hret0
    refine c_region fun K hK => ?_
    refine st1 h rfl rfl rfl (v_fieldAddr rfl Tryd.underlying28 rfl Tryd.sizeOf9 rfl rfl) fun a h => ?_
    refine st1 h rfl rfl rfl (v_load1 rfl Tryd.isAgg9 (H.get 0 rfl) rfl) fun a h => ?_
    refine st1 h rfl rfl rfl (v_slen Tryd.underlying9 rfl) fun a h => ?_
    refine st1 h rfl rfl rfl (v_move rfl) fun a h => ?_
    refine c_nil hK ?_
    refine c_lblock fun Q8 hN8 hx0_8 hO8 => ?_
    have hret8 := hO8.ret hret6
    refine c_loopN (fun mu_ a w => ∃ (i : Int) (o : List UInt8), mu_ = (s.length - i).toNat ∧ ((0 ≤ i ∧ i ≤ s.length) ∧ (o = 34 :: dbl (s.take i.toNat))) ∧ Fr 34 [(1, .pointer (some ⟨p1, 0, none⟩)), (3, S o), (12, .int .i64 s.length), (13, .int .i64 i)] a ∧ Hp w0 [.blk p1 (Cel [.int .i64 k, S s, .int .i64 at0] 28)] w) _ ⟨0, [34], rfl, ⟨by omega, rfl⟩, (h.only [1, 3, 12, 13] (l' := [(1, _), (3, _), (12, _), (13, _)]) rfl), H⟩ ?_
    rintro _ a w ⟨i, o, rfl, ⟨hi, ho⟩, h, H⟩ Q9 hN9 hO9
    have hret9 := hO9.ret hret8
    have hx0_9 := hO9.exit (i := 0) rfl hx0_8
    have hod : o.length ≤ 1 + 2 * i.toNat := by rw [ho]; have := dbl_len (s.take i.toNat); simp at this ⊢; omega
    refine c_region fun K hK => ?_
    refine st1b h rfl rfl rfl (v_lt rfl rfl) fun b14 e14 a h => ?_
    refine c_nil hK ?_
    refine c_seq _ (fun a w c => c) fun Q11 hN11 hO11 => ?_
    have hret11 := hO11.ret hret9
    have hx0_11 := hO11.exit (i := 0) rfl hx0_9
    refine c_cond h rfl (fun ec14 => ?_) (fun ec14 => ?_)
    · simp only [e14, Bool.and_eq_true, Bool.or_eq_true, Bool.and_eq_false_iff, Bool.or_eq_false_iff, decide_eq_true_eq, decide_eq_false_iff_not, Bool.not_eq_true', Bool.not_eq_false', Bool.not_true, Bool.not_false, eq_self] at ec14
      have ec := ec14
      refine c_skip ?_
      refine hN11 _ _ ?_
      refine c_block _ (fun a w c => c) fun Q12 hN12 hx1_12 hO12 => ?_
      have hret12 := hO12.ret hret9
      have hx0_12 := hO12.exit (i := 0) rfl hx0_9
      refine c_region fun K hK => ?_
      refine st1 h rfl rfl rfl (v_move rfl) fun a h => ?_
      refine st1 h rfl rfl rfl (v_assign rfl) fun a h => ?_
      refine c_nil hK ?_
      refine c_seq _ (fun a w c => c) fun Q14 hN14 hO14 => ?_
      have hret14 := hO14.ret hret12
      have hx0_14 := hO14.exit (i := 0) rfl hx0_12
      have hx1_14 := hO14.exit (i := 1) rfl hx1_12
      refine c_region fun K hK => ?_
      refine st1 h rfl rfl rfl (v_fieldAddr rfl Tryd.underlying28 rfl Tryd.sizeOf9 rfl rfl) fun a h => ?_
      refine st1 h rfl rfl rfl (v_load1 rfl Tryd.isAgg9 (H.get 0 rfl) rfl) fun a h => ?_
      refine st1 h rfl rfl rfl (v_move rfl) fun a h => ?_
      refine st1 h rfl rfl rfl (v_sidx Tryd.underlying9 rfl rfl (by omega)) fun a h => ?_
      refine st1b h rfl rfl rfl (v_eq rfl rfl) fun b20 e20 a h => ?_
      refine c_nil hK ?_
      have h := h.only [1, 3, 4, 12, 13, 20] (l' := [(1, _), (3, _), (4, _), (12, _), (13, _), (20, _)]) rfl
      refine c_cond h rfl (fun ec20 => ?_) (fun ec20 => ?_)
      · simp only [e20, e14, Bool.and_eq_true, Bool.or_eq_true, Bool.and_eq_false_iff, Bool.or_eq_false_iff, decide_eq_true_eq, decide_eq_false_iff_not, Bool.not_eq_true', Bool.not_eq_false', Bool.not_true, Bool.not_false, eq_self] at ec20
        have ec := ec20
        refine c_lregion ?_
        refine st1 h rfl rfl rfl (v_move rfl) fun a h => ?_
        refine st1 h rfl rfl rfl (v_sadd rfl rfl (by first | omega | (simp only [cutS_length, List.length_append, List.length_cons, List.length_nil]; omega))) fun a h => ?_
        refine st1 h rfl rfl rfl (v_assign rfl) fun a h => ?_
        refine c_lnil ?_
        refine hN14 _ _ ?_
        refine c_lregion ?_
        refine st1 h rfl rfl rfl (v_move rfl) fun a h => ?_
        refine st1 h rfl rfl rfl (v_fieldAddr rfl Tryd.underlying28 rfl Tryd.sizeOf9 rfl rfl) fun a h => ?_
        refine st1 h rfl rfl rfl (v_load1 rfl Tryd.isAgg9 (H.get 0 rfl) rfl) fun a h => ?_
        refine st1 h rfl rfl rfl (v_move rfl) fun a h => ?_
        refine st1 h rfl rfl rfl (v_move rfl) fun a h => ?_
        refine st1 h rfl rfl rfl (v_add rfl rfl (wi (by omega))) fun a h => ?_
        refine st1 h rfl rfl rfl (v_scut Tryd.underlying9 rfl rfl rfl (by omega)) fun a h => ?_
        refine st1 h rfl rfl rfl (v_sadd rfl rfl (by first | omega | (simp only [cutS_length, List.length_append, List.length_cons, List.length_nil]; omega))) fun a h => ?_
        refine st1 h rfl rfl rfl (v_assign rfl) fun a h => ?_
        refine c_lnil ?_
        refine hN12 _ _ ?_
        have h := h.only [1, 3, 12, 13] (l' := [(1, _), (3, _), (12, _), (13, _)]) rfl
        refine c_lregion ?_
        refine st1 h rfl rfl rfl (v_add rfl rfl (wi (by omega))) fun a h => ?_
        refine st1 h rfl rfl rfl (v_move rfl) fun a h => ?_
        refine c_lnil ?_
        refine hN9 _ _ _ ?_ ⟨i + 1, _, rfl, ?_, (h.only [1, 3, 12, 13] (l' := [(1, _), (3, _), (12, _), (13, _)]) rfl), H⟩
        · omega
        · refine ⟨by omega, ?_⟩
          rw [ho, cutS_one s i (by omega), dbl_step s i (by omega)]
          simp [ec]
      · simp only [e20, e14, Bool.and_eq_true, Bool.or_eq_true, Bool.and_eq_false_iff, Bool.or_eq_false_iff, decide_eq_true_eq, decide_eq_false_iff_not, Bool.not_eq_true', Bool.not_eq_false', Bool.not_true, Bool.not_false, eq_self] at ec20
        have ec := ec20
        refine c_skip ?_
        refine hN14 _ _ ?_
        refine c_lregion ?_
        refine st1 h rfl rfl rfl (v_move rfl) fun a h => ?_
        refine st1 h rfl rfl rfl (v_fieldAddr rfl Tryd.underlying28 rfl Tryd.sizeOf9 rfl rfl) fun a h => ?_
        refine st1 h rfl rfl rfl (v_load1 rfl Tryd.isAgg9 (H.get 0 rfl) rfl) fun a h => ?_
        refine st1 h rfl rfl rfl (v_move rfl) fun a h => ?_
        refine st1 h rfl rfl rfl (v_move rfl) fun a h => ?_
        refine st1 h rfl rfl rfl (v_add rfl rfl (wi (by omega))) fun a h => ?_
        refine st1 h rfl rfl rfl (v_scut Tryd.underlying9 rfl rfl rfl (by omega)) fun a h => ?_
        refine st1 h rfl rfl rfl (v_sadd rfl rfl (by first | omega | (simp only [cutS_length, List.length_append, List.length_cons, List.length_nil]; omega))) fun a h => ?_
        refine st1 h rfl rfl rfl (v_assign rfl) fun a h => ?_
        refine c_lnil ?_
        refine hN12 _ _ ?_
        have h := h.only [1, 3, 12, 13] (l' := [(1, _), (3, _), (12, _), (13, _)]) rfl
        refine c_lregion ?_
        refine st1 h rfl rfl rfl (v_add rfl rfl (wi (by omega))) fun a h => ?_
        refine st1 h rfl rfl rfl (v_move rfl) fun a h => ?_
        refine c_lnil ?_
        refine hN9 _ _ _ ?_ ⟨i + 1, _, rfl, ?_, (h.only [1, 3, 12, 13] (l' := [(1, _), (3, _), (12, _), (13, _)]) rfl), H⟩
        · omega
        · refine ⟨by omega, ?_⟩
          rw [ho, cutS_one s i (by omega), dbl_step s i (by omega)]
          simp [ec]
    · simp only [e14, Bool.and_eq_true, Bool.or_eq_true, Bool.and_eq_false_iff, Bool.or_eq_false_iff, decide_eq_true_eq, decide_eq_false_iff_not, Bool.not_eq_true', Bool.not_eq_false', Bool.not_true, Bool.not_false, eq_self] at ec14
      have ec := ec14
      refine c_exit ?_
      refine hx0_11 _ _ ?_
      refine hN6 _ _ ?_
      have h := h.only [3] (l' := [(3, _)]) rfl
      refine c_region fun K hK => ?_
      refine st1 h rfl rfl rfl (v_move rfl) fun a h => ?_
      refine st1 h rfl rfl rfl (v_sadd rfl rfl (by first | omega | (simp only [cutS_length, List.length_append, List.length_cons, List.length_nil]; omega))) fun a h => ?_
      refine st1 h rfl rfl rfl (v_assign rfl) fun a h => ?_
      refine c_nil hK ?_
      refine c_ret (hret0 _ _ (out1 h rfl rfl ?_))
      refine ⟨?_, H.out⟩
      have e : i.toNat = s.length := by omega
      rw [ho, e, List.take_length]
      simp [quote, hk]

theorem errName_ok (c : Int) (w0 : World) (hb : -9223372036854775807 ≤ c ∧ c ≤ 9223372036854775807) (hG : GF w0) : Calls Tryd.prog 12 [.int .i64 c].toArray w0 (Ret fun v w => v = S (errName c) ∧ Ext w0 w) := by
  refine enter Tryd.func12 rfl rfl rfl fun Q a h hret0 hnor => ?_
  have H := Hp.start w0
  have h := h.only [0] (l' := [(0, _)]) rfl
  refine c_region fun K hK => ?_
  refine st1 h rfl rfl rfl (v_assign rfl) fun a h => ?_
  refine c_nil hK ?_
  refine c_region fun K hK => ?_
  refine st2 h rfl rfl rfl (d_call [_] rfl Tryd.call14 (fields_ok namesC _ (by decide) (by decide) (GF.ext hG H.out))) ?_
  rintro v4 w ⟨hr4, X⟩ a h
  have H := H.ext X
  rw [fields_names] at hr4
  have hen : enames.length = 7 := rfl
  refine st1 h rfl rfl rfl (v_assign rfl) fun a h => ?_
  refine c_nil hK ?_
  refine c_seq _ (fun a w c => c) fun Q3 hN3 hO3 => ?_
  have hret3 := hO3.ret hret0
  refine c_region fun K hK => ?_
  refine st1 h rfl rfl rfl (v_move rfl) fun a h => ?_
  refine st1b h rfl rfl rfl (v_lt rfl rfl) fun b6 e6 a h => ?_
  refine st1 h rfl rfl rfl (v_move rfl) fun a h => ?_
  refine st_g h rfl rfl (gF rfl) rfl rfl (fun e0 => v_move rfl) fun a h => ?_
  refine st_g h rfl rfl (gF rfl) rfl rfl (fun e0 => v_move rfl) fun a h => ?_
  refine st_g h rfl rfl (gF rfl) rfl rfl (fun e0 => v_len Tryd.underlying36 (eg e0 rfl) hr4) fun a h => ?_
  refine st_gb h rfl rfl (gF rfl) rfl rfl (fun e0 => v_gt (eg e0 rfl) (eg e0 rfl)) fun b11 e11 a h => ?_
  refine st1b h rfl rfl rfl (v_or rfl rfl) fun b12 e12 a h => ?_
  refine c_nil hK ?_
  have h := h.only [0, 3, 12] (l' := [(0, _), (3, _), (12, _)]) rfl
  refine c_cond h rfl (fun ec12 => ?_) (fun ec12 => ?_)
  · simp only [e12, e11, e6, Bool.and_eq_true, Bool.or_eq_true, Bool.and_eq_false_iff, Bool.or_eq_false_iff, decide_eq_true_eq, decide_eq_false_iff_not, Bool.not_eq_true', Bool.not_eq_false', Bool.not_true, Bool.not_false, eq_self] at ec12
    have ec := ec12
    refine c_region fun K hK => ?_
    refine st1 h rfl rfl rfl (v_assign rfl) fun a h => ?_
    refine c_nil hK ?_
    refine c_ret (hret3 _ _ (out1 h rfl rfl ?_))
    refine ⟨?_, H.out⟩
    simp only [errName]
    rw [if_neg (by omega)]
  · simp only [e12, e11, e6, Bool.and_eq_true, Bool.or_eq_true, Bool.and_eq_false_iff, Bool.or_eq_false_iff, decide_eq_true_eq, decide_eq_false_iff_not, Bool.not_eq_true', Bool.not_eq_false', Bool.not_true, Bool.not_false, eq_self] at ec12
    have ec := ec12
    refine c_skip ?_
    refine hN3 _ _ ?_
    refine c_region fun K hK => ?_
    refine st1 h rfl rfl rfl (v_move rfl) fun a h => ?_
    refine st1 h rfl rfl rfl (v_move rfl) fun a h => ?_
    refine st1 h rfl rfl rfl (v_sub rfl rfl (wi (by omega))) fun a h => ?_
    refine st_idx h Tryd.underlying36 Tryd.sizeOf9 rfl rfl hr4 (fun _ => rfl) _ (by omega) (getD_some _ _ [] (by omega)) rfl fun a v16 A16 h => ?_
    refine st1 h rfl rfl rfl (v_loadAt1 rfl A16 Tryd.isAgg9 rfl) fun a h => ?_
    refine st1 h rfl rfl rfl (v_assign rfl) fun a h => ?_
    refine c_nil hK ?_
    have h := h.only [2] (l' := [(2, _)]) rfl
    clear hr4
    clear A16
    refine c_ret (hret0 _ _ (out1 h rfl rfl ?_))
    refine ⟨?_, H.out⟩
    simp only [errName]
    rw [if_pos (by omega)]

end Go.Proofs.YtdepoohfljaogaaDoor
