/- Walks of the functions of package value, further. -/
import Derived.Test.YtmfblggkgmgccaaDoorF
import Derived.Test.YtmfblggkgmgccaaDoorValPlain
import Derived.Test.YtmfblggkgmgccaaDoorValA
import Derived.Test.YtmfblggkgmgccaaDoorShelf
set_option linter.unusedSimpArgs false
set_option linter.unusedVariables false
set_option linter.unusedSectionVars false
namespace Go.Proofs.YtmfblggkgmgccaaDoor
open Go.Stp Go.RowKit Go.ValP
theorem abs_ok (a : Int) (w0 : World) (ha : -9223372036854775808 ≤ a ∧ a ≤ 9223372036854775807) : Calls Tryd.prog 32 [.int .i64 a].toArray w0 (Ret fun v w => v = .int .u64 (absV a) ∧ Ext w0 w) := by
  refine enter Tryd.func32 rfl rfl rfl fun Q a h hret0 hnor => ?_
  have H := Hp.start w0
  have h := h.only [0] (l' := [(0, _)]) rfl
  refine c_region fun K hK => ?_
  refine st1 h rfl rfl rfl (v_assign rfl) fun a h => ?_
  refine c_nil hK ?_
  refine c_seq _ (fun a w c => c) fun Q2 hN2 hO2 => ?_
  have hret2 := hO2.ret hret0
  refine c_region fun K hK => ?_
  refine st1 h rfl rfl rfl (v_move rfl) fun a h => ?_
  refine st1b h rfl rfl rfl (v_lt rfl rfl) fun b4 e4 a h => ?_
  refine c_nil hK ?_
  refine c_cond h rfl (fun ec4 => ?_) (fun ec4 => ?_)
  · simp only [e4, Bool.and_eq_true, Bool.or_eq_true, Bool.and_eq_false_iff, Bool.or_eq_false_iff, decide_eq_true_eq, decide_eq_false_iff_not, Bool.not_eq_true', Bool.not_eq_false', Bool.not_true, Bool.not_false, eq_self] at ec4
    have ec := ec4
    refine c_region fun K hK => ?_
    refine st1 h rfl rfl rfl (v_move rfl) fun a h => ?_
    refine st1 h rfl rfl rfl (v_convInt (by rw [Tryd.underlying2]; rfl) Tryd.underlying51 rfl rfl) fun a h => ?_
    refine st1 h rfl rfl rfl (v_negw rfl) fun a h => ?_
    refine st1 h rfl rfl rfl (v_assign rfl) fun a h => ?_
    refine c_nil hK ?_
    have h := h.only [2] (l' := [(2, _)]) rfl
    refine c_ret (hret2 _ _ (out1 h rfl rfl ?_))
    refine ⟨?_, H.out⟩
    rw [wrap_u64, wrap_u64, absV, if_pos ec]
    congr 1
    omega
  · simp only [e4, Bool.and_eq_true, Bool.or_eq_true, Bool.and_eq_false_iff, Bool.or_eq_false_iff, decide_eq_true_eq, decide_eq_false_iff_not, Bool.not_eq_true', Bool.not_eq_false', Bool.not_true, Bool.not_false, eq_self] at ec4
    have ec := ec4
    refine c_skip ?_
    refine hN2 _ _ ?_
    refine c_region fun K hK => ?_
    refine st1 h rfl rfl rfl (v_move rfl) fun a h => ?_
    refine st1 h rfl rfl rfl (v_convInt (by rw [Tryd.underlying2]; rfl) Tryd.underlying51 rfl (wu64 (by omega))) fun a h => ?_
    refine st1 h rfl rfl rfl (v_assign rfl) fun a h => ?_
    refine c_nil hK ?_
    have h := h.only [2] (l' := [(2, _)]) rfl
    refine c_ret (hret0 _ _ (out1 h rfl rfl ?_))
    refine ⟨?_, H.out⟩
    rw [absV, if_neg ec]

theorem print_ok (c : Int) (w0 : World) (hc : 0 ≤ c ∧ c ≤ 1) : Calls Tryd.prog 22 [.int .i64 (c * 1000000)].toArray w0 (Ret fun v w => v = S [UInt8.ofNat (48 + c).toNat] ∧ Ext w0 w) := by
  refine enter Tryd.func22 rfl rfl rfl fun Q a h hret0 hnor => ?_
  have H := Hp.start w0
  have h := h.only [0] (l' := [(0, _)]) rfl
  refine c_region fun K hK => ?_
  refine st1 h rfl rfl rfl (v_assign rfl) fun a h => ?_
  refine c_nil hK ?_
  refine c_region fun K hK => ?_
  refine st1 h rfl rfl rfl (v_move rfl) fun a h => ?_
  refine st2v (T := Ext) h rfl rfl rfl (d_call [_] rfl Tryd.call32 (abs_ok (c * 1000000) _ (by omega))) fun w X a h => ?_
  have H := H.ext X
  refine st1 h rfl rfl rfl (v_assign rfl) fun a h => ?_
  refine c_nil hK ?_
  refine c_region fun K hK => ?_
  refine st_slice0 h H Tryd.underlying56 Tryd.sizeOf5 rfl fun a v12 w X H h => ?_
  refine st1 h rfl rfl rfl (v_assign rfl) fun a h => ?_
  refine c_nil hK ?_
  have h := h.only [0, 3, 4] (l' := [(0, _), (3, _), (4, _)]) rfl
  refine c_region fun K hK => ?_
  refine st1 h rfl rfl rfl (v_assign rfl) fun a h => ?_
  refine c_nil hK ?_
  refine c_seq _ (fun a w c => c) fun Q5 hN5 hO5 => ?_
  have hret5 := hO5.ret hret0
  refine c_region fun K hK => ?_
  refine st1 h rfl rfl rfl (v_assign rfl) fun a h => ?_
  refine c_nil hK ?_
  refine c_lblock fun Q7 hN7 hx0_7 hO7 => ?_
  have hret7 := hO7.ret hret5
  refine c_loopN (fun mu_ a w => ∃ (k n : Int) (tl : Bool) (out : List UInt8) (sv : Value), mu_ = (8 - k).toNat ∧ ((PSt c k n tl out)) ∧ Fr 74 [(0, .int .i64 (c * 1000000)), (3, .int .u64 n), (4, sv), (5, .bool tl), (6, .int .i64 k)] a ∧ Hp w0 [.row 5 1 sv out.length (out.flatMap u8E)] w) _ ⟨0, absV (c * 1000000), true, [], _, rfl, .inl ⟨rfl, rfl, .inl ⟨rfl, by unfold absV; rw [if_neg (by omega)]⟩⟩, (h.only [0, 3, 4, 5, 6] (l' := [(0, _), (3, _), (4, _), (5, _), (6, _)]) rfl), H⟩ ?_
  rintro _ a w ⟨k, n, tl, out, sv, rfl, hP, h, H⟩ Q8 hN8 hO8
  have hret8 := hO8.ret hret7
  have hx0_8 := hO8.exit (i := 0) rfl hx0_7
  have hbd := hP.bd hc
  refine c_seq _ (fun a w c => c) fun Q9 hN9 hO9 => ?_
  have hret9 := hO9.ret hret8
  have hx0_9 := hO9.exit (i := 0) rfl hx0_8
  refine c_region fun K hK => ?_
  refine st1 h rfl rfl rfl (v_move rfl) fun a h => ?_
  refine st1b h rfl rfl rfl (v_lt rfl rfl) fun b14 e14 a h => ?_
  refine st1 h rfl rfl rfl (v_move rfl) fun a h => ?_
  refine st_g h rfl rfl (gF rfl) rfl rfl (fun e0 => v_move rfl) fun a h => ?_
  refine st_gb h rfl rfl (gF rfl) rfl rfl (fun e0 => v_gt (eg e0 rfl) rfl) fun b17 e17 a h => ?_
  refine st1b h rfl rfl rfl (v_or rfl rfl) fun b18 e18 a h => ?_
  refine c_nil hK ?_
  have h := h.only [0, 3, 4, 5, 6, 18] (l' := [(0, _), (3, _), (4, _), (5, _), (6, _), (18, _)]) rfl
  refine c_cond h rfl (fun ec18 => ?_) (fun ec18 => ?_)
  · simp only [e18, e17, e14, Bool.and_eq_true, Bool.or_eq_true, Bool.and_eq_false_iff, Bool.or_eq_false_iff, decide_eq_true_eq, decide_eq_false_iff_not, Bool.not_eq_true', Bool.not_eq_false', Bool.not_true, Bool.not_false, eq_self] at ec18
    have ec := ec18
    refine c_skip ?_
    refine hN9 _ _ ?_
    refine c_block _ (fun a w c => c) fun Q11 hN11 hx1_11 hO11 => ?_
    have hret11 := hO11.ret hret8
    have hx0_11 := hO11.exit (i := 0) rfl hx0_8
    refine c_seq _ (fun a w c => c) fun Q12 hN12 hO12 => ?_
    have hret12 := hO12.ret hret11
    have hx0_12 := hO12.exit (i := 0) rfl hx0_11
    have hx1_12 := hO12.exit (i := 1) rfl hx1_11
    refine c_region fun K hK => ?_
    refine st1 h rfl rfl rfl (v_move rfl) fun a h => ?_
    refine st1b h rfl rfl rfl (v_eq rfl rfl) fun b22 e22 a h => ?_
    refine c_nil hK ?_
    refine c_cond h rfl (fun ec22 => ?_) (fun ec22 => ?_)
    · simp only [e22, e18, e17, e14, Bool.and_eq_true, Bool.or_eq_true, Bool.and_eq_false_iff, Bool.or_eq_false_iff, decide_eq_true_eq, decide_eq_false_iff_not, Bool.not_eq_true', Bool.not_eq_false', Bool.not_true, Bool.not_false, eq_self] at ec22
      have ec := ec22
      refine c_seq _ (fun a w c => c) fun Q14 hN14 hO14 => ?_
      have hret14 := hO14.ret hret12
      have hx0_14 := hO14.exit (i := 0) rfl hx0_12
      have hx1_14 := hO14.exit (i := 1) rfl hx1_12
      refine c_region fun K hK => ?_
      refine st1 h rfl rfl rfl (v_move rfl) fun a h => ?_
      refine st1b h rfl rfl rfl (v_not rfl) fun b24 e24 a h => ?_
      refine c_nil hK ?_
      have h := h.only [0, 3, 4, 6, 24] (l' := [(0, _), (3, _), (4, _), (6, _), (24, _)]) rfl
      refine c_cond h rfl (fun ec24 => ?_) (fun ec24 => ?_)
      · have ec := ec24
        exact absurd ec (by rw [e24, (hP.last hc ec22).1]; decide)
      · have ec := ec24
        skip
        refine c_skip ?_
        refine hN14 _ _ ?_
        refine c_lregion ?_
        refine st1 h rfl rfl rfl (v_assign rfl) fun a h => ?_
        refine c_lnil ?_
        refine hN12 _ _ ?_
        refine c_region fun K hK => ?_
        refine st1 h rfl rfl rfl (v_move rfl) fun a h => ?_
        refine st1 h rfl rfl rfl (v_rem rfl rfl (by omega)) fun a h => ?_
        have h29 : 0 ≤ n.tmod 10 ∧ n.tmod 10 ≤ 9 := by
          have h1 := Int.tmod_nonneg 10 hbd.2.2.1
          have h2 := Int.tmod_lt_of_pos n (show (0 : Int) < 10 by decide)
          omega
        refine st1 h rfl rfl rfl (v_convInt (by rw [Tryd.underlying51]; rfl) Tryd.underlying5 rfl (wu8 (by omega))) fun a h => ?_
        refine st1 h rfl rfl rfl (v_assign rfl) fun a h => ?_
        refine c_nil hK ?_
        have h := h.only [0, 3, 4, 5, 6, 7] (l' := [(0, _), (3, _), (4, _), (5, _), (6, _), (7, _)]) rfl
        refine c_region fun K hK => ?_
        refine st1 h rfl rfl rfl (v_move rfl) fun a h => ?_
        have h31 : 0 ≤ n.tdiv 10 ∧ n.tdiv 10 ≤ n := by
          rw [Int.tdiv_eq_ediv_of_nonneg hbd.2.2.1]
          omega
        refine st1 h rfl rfl rfl (v_quo rfl rfl (by omega) (wu64 (by omega))) fun a h => ?_
        refine st1 h rfl rfl rfl (v_assign rfl) fun a h => ?_
        refine c_nil hK ?_
        refine c_seq _ (fun a w c => c) fun Q18 hN18 hO18 => ?_
        have hret18 := hO18.ret hret11
        have hx0_18 := hO18.exit (i := 0) rfl hx0_11
        have hx1_18 := hO18.exit (i := 1) rfl hx1_11
        refine c_region fun K hK => ?_
        refine st1 h rfl rfl rfl (v_move rfl) fun a h => ?_
        refine st1 h rfl rfl rfl (v_move rfl) fun a h => ?_
        refine st_g h rfl rfl (gT rfl) rfl rfl (fun e0 => v_move rfl) fun a h => ?_
        refine st_gb h rfl rfl (gT rfl) rfl rfl (fun e0 => v_eq (eg e0 rfl) rfl) fun b36 e36 a h => ?_
        refine st1b h rfl rfl rfl (v_and rfl rfl) fun b37 e37 a h => ?_
        refine c_nil hK ?_
        have h := h.only [0, 3, 4, 5, 6, 7, 37] (l' := [(0, _), (3, _), (4, _), (5, _), (6, _), (7, _), (37, _)]) rfl
        refine c_cond h rfl (fun ec37 => ?_) (fun ec37 => ?_)
        · have ec := ec37
          exact absurd ec (by rw [e37]; simp)
        · have ec := ec37
          skip
          refine c_skip ?_
          refine hN18 _ _ ?_
          refine c_region fun K hK => ?_
          refine st1 h rfl rfl rfl (v_assign rfl) fun a h => ?_
          refine c_nil hK ?_
          refine c_lregion ?_
          refine st1 h rfl rfl rfl (v_move rfl) fun a h => ?_
          refine st1 h rfl rfl rfl (v_move rfl) fun a h => ?_
          refine st1 h rfl rfl rfl (v_add rfl rfl (wu8 (by omega))) fun a h => ?_
          refine st_slice1 h H Tryd.underlying56 Tryd.sizeOf5 Tryd.zeroValue5 rfl rfl rfl [_] rfl rfl rfl fun a p41 w x41 X H h => ?_
          refine st_append (news := [_]) h H 0 rfl Tryd.underlying56 app5 rfl rfl rfl (H.get 1 rfl) rfl rfl (allOne_mem rfl) (by omega) (by omega) rfl fun a v42 w H hs h => ?_
          have H : Hp w0 [_, _] w := H
          refine st1 h rfl rfl rfl (v_assign rfl) fun a h => ?_
          refine c_lnil ?_
          refine hN11 _ _ ?_
          have h := h.only [0, 3, 4, 5, 6] (l' := [(0, _), (3, _), (4, _), (5, _), (6, _)]) rfl
          refine c_lregion ?_
          refine st1 h rfl rfl rfl (v_move rfl) fun a h => ?_
          refine st1 h rfl rfl rfl (v_add rfl rfl (wi (by omega))) fun a h => ?_
          refine st1 h rfl rfl rfl (v_assign rfl) fun a h => ?_
          refine c_lnil ?_
          refine hN8 _ _ _ ?_ ⟨k + 1, n.tdiv 10, false, [UInt8.ofNat (48 + c).toNat], _, rfl, ?_, (h.only [0, 3, 4, 5, 6] (l' := [(0, _), (3, _), (4, _), (5, _), (6, _)]) rfl), (by
              have H2 := H.keepN 1 (hl' := [_]) rfl
              have hla := hP.last hc ec22
              rw [hla.2.1, hla.2.2.1] at H2
              have e48 := u8_48 c (by omega)
              simp only [List.flatMap_cons, List.flatMap_nil, u8E, e48]
              exact H2)⟩
          · omega
          · exact (hP.last hc ec22).2.2.2
    · have ec := ec22
      simp only [e22, decide_eq_false_iff_not] at ec
      have hsk := hP.skip hc ec ec18
      refine c_skip ?_
      refine hN12 _ _ ?_
      refine c_region fun K hK => ?_
      refine st1 h rfl rfl rfl (v_move rfl) fun a h => ?_
      refine st1 h rfl rfl rfl (v_rem rfl rfl (by omega)) fun a h => ?_
      have h29 : 0 ≤ n.tmod 10 ∧ n.tmod 10 ≤ 9 := by
        have h1 := Int.tmod_nonneg 10 hbd.2.2.1
        have h2 := Int.tmod_lt_of_pos n (show (0 : Int) < 10 by decide)
        omega
      refine st1 h rfl rfl rfl (v_convInt (by rw [Tryd.underlying51]; rfl) Tryd.underlying5 rfl (wu8 (by omega))) fun a h => ?_
      refine st1 h rfl rfl rfl (v_assign rfl) fun a h => ?_
      refine c_nil hK ?_
      have h := h.only [0, 3, 4, 5, 6, 7] (l' := [(0, _), (3, _), (4, _), (5, _), (6, _), (7, _)]) rfl
      refine c_region fun K hK => ?_
      refine st1 h rfl rfl rfl (v_move rfl) fun a h => ?_
      have h31 : 0 ≤ n.tdiv 10 ∧ n.tdiv 10 ≤ n := by
        rw [Int.tdiv_eq_ediv_of_nonneg hbd.2.2.1]
        omega
      refine st1 h rfl rfl rfl (v_quo rfl rfl (by omega) (wu64 (by omega))) fun a h => ?_
      refine st1 h rfl rfl rfl (v_assign rfl) fun a h => ?_
      refine c_nil hK ?_
      refine c_seq _ (fun a w c => c) fun Q23 hN23 hO23 => ?_
      have hret23 := hO23.ret hret11
      have hx0_23 := hO23.exit (i := 0) rfl hx0_11
      have hx1_23 := hO23.exit (i := 1) rfl hx1_11
      refine c_region fun K hK => ?_
      refine st1 h rfl rfl rfl (v_move rfl) fun a h => ?_
      refine st1 h rfl rfl rfl (v_move rfl) fun a h => ?_
      refine st_g h rfl rfl (gT rfl) rfl rfl (fun e0 => v_move rfl) fun a h => ?_
      refine st_gb h rfl rfl (gT rfl) rfl rfl (fun e0 => v_eq (eg e0 rfl) rfl) fun b36 e36 a h => ?_
      refine st1b h rfl rfl rfl (v_and rfl rfl) fun b37 e37 a h => ?_
      refine c_nil hK ?_
      have h := h.only [0, 3, 4, 5, 6, 7, 37] (l' := [(0, _), (3, _), (4, _), (5, _), (6, _), (7, _), (37, _)]) rfl
      refine c_cond h rfl (fun ec37 => ?_) (fun ec37 => ?_)
      · have ec := ec37
        skip
        refine c_exit ?_
        refine hx1_23 _ _ ?_
        refine c_lregion ?_
        refine st1 h rfl rfl rfl (v_move rfl) fun a h => ?_
        refine st1 h rfl rfl rfl (v_add rfl rfl (wi (by omega))) fun a h => ?_
        refine st1 h rfl rfl rfl (v_assign rfl) fun a h => ?_
        refine c_lnil ?_
        refine hN8 _ _ _ ?_ ⟨k + 1, n.tdiv 10, tl, out, sv, rfl, ?_, (h.only [0, 3, 4, 5, 6] (l' := [(0, _), (3, _), (4, _), (5, _), (6, _)]) rfl), H⟩
        · omega
        · exact hsk.2.2
      · have ec := ec37
        exact absurd ec (by rw [e37, e36, hsk.1]; simp [hsk.2.1])
  · have ec := ec18
    simp only [e18, e17, e14, Bool.and_eq_true, Bool.or_eq_true, Bool.and_eq_false_iff, Bool.or_eq_false_iff, decide_eq_true_eq, decide_eq_false_iff_not, Bool.not_eq_true', Bool.not_eq_false', Bool.not_true, Bool.not_false, eq_self] at ec
    have hst := hP.stop hc (by omega)
    refine c_exit ?_
    refine hx0_9 _ _ ?_
    refine hN5 _ _ ?_
    have h := h.only [0, 4] (l' := [(0, _), (4, _)]) rfl
    refine c_seq _ (fun a w c => c) fun Q25 hN25 hO25 => ?_
    have hret25 := hO25.ret hret0
    refine c_region fun K hK => ?_
    refine st1 h rfl rfl rfl (v_move rfl) fun a h => ?_
    refine st1b h rfl rfl rfl (v_lt rfl rfl) fun b44 e44 a h => ?_
    refine c_nil hK ?_
    refine c_cond h rfl (fun ec44 => ?_) (fun ec44 => ?_)
    · have ec := ec44
      exact absurd ec (by rw [e44]; simp; omega)
    · have ec := ec44
      skip
      refine c_skip ?_
      refine hN25 _ _ ?_
      refine c_seq _ (fun a w c => c) fun Q27 hN27 hO27 => ?_
      have hret27 := hO27.ret hret0
      refine c_region fun K hK => ?_
      refine st1 h rfl rfl rfl (v_move rfl) fun a h => ?_
      have hr48 : Reads w sv 1 u8E out := Reads.of_row (H.getRow 0 rfl) rfl
      refine st1 h rfl rfl rfl (v_len Tryd.underlying56 rfl hr48) fun a h => ?_
      refine st1 h rfl rfl rfl (v_sub rfl rfl (wi (by omega))) fun a h => ?_
      refine st1 h rfl rfl rfl (v_assign rfl) fun a h => ?_
      refine st1 h rfl rfl rfl (v_assign rfl) fun a h => ?_
      refine c_nil hK ?_
      have h := h.only [4, 8, 9] (l' := [(4, _), (8, _), (9, _)]) rfl
      refine c_lblock fun Q29 hN29 hx2_29 hO29 => ?_
      have hret29 := hO29.ret hret27
      refine c_loopN (fun mu_ a w => ∃ (j : Int), mu_ = 0 ∧ ((j ≤ 0) ∧ (Reads w sv 1 u8E out)) ∧ Fr 74 [(4, sv), (8, .int .i64 0), (9, .int .i64 j)] a ∧ Hp w0 [.row 5 1 sv out.length (out.flatMap u8E)] w) _ ⟨_, rfl, ⟨by rw [hst]; simp, hr48⟩, (h.only [4, 8, 9] (l' := [(4, _), (8, _), (9, _)]) rfl), H⟩ ?_
      rintro _ a w ⟨j, rfl, ⟨hj, hr48⟩, h, H⟩ Q30 hN30 hO30
      have hret30 := hO30.ret hret29
      have hx2_30 := hO30.exit (i := 2) rfl hx2_29
      refine c_seq _ (fun a w c => c) fun Q31 hN31 hO31 => ?_
      have hret31 := hO31.ret hret30
      have hx2_31 := hO31.exit (i := 2) rfl hx2_30
      refine c_region fun K hK => ?_
      refine st1 h rfl rfl rfl (v_move rfl) fun a h => ?_
      refine st1 h rfl rfl rfl (v_move rfl) fun a h => ?_
      refine st1b h rfl rfl rfl (v_lt rfl rfl) fun b53 e53 a h => ?_
      refine c_nil hK ?_
      refine c_cond h rfl (fun ec53 => ?_) (fun ec53 => ?_)
      · have ec := ec53
        exact absurd ec (by rw [e53]; simp; omega)
      · have ec := ec53
        skip
        refine c_exit ?_
        refine hx2_31 _ _ ?_
        refine hN27 _ _ ?_
        have h := h.only [4] (l' := [(4, _)]) rfl
        refine c_region fun K hK => ?_
        refine st1 h rfl rfl rfl (v_move rfl) fun a h => ?_
        refine st1 h rfl rfl rfl (v_toStr Tryd.underlying56 Tryd.underlying5 Tryd.underlying9 rfl hr48 (by rw [hst]; simp)) fun a h => ?_
        refine st1 h rfl rfl rfl (v_assign rfl) fun a h => ?_
        refine c_nil hK ?_
        refine c_ret (hret0 _ _ (out1 h rfl rfl ?_))
        refine ⟨?_, H.out⟩
        rw [hst]

end Go.Proofs.YtmfblggkgmgccaaDoor
