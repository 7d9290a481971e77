/- More of package num. -/
import Derived.Test.YtnmkeanoidadcaaGreatDoorPlNum
import Derived.Laws.RangeAny
set_option linter.unusedSimpArgs false
set_option linter.unusedVariables false
set_option linter.unusedSectionVars false
namespace Go.Sp
open Go.Stp Go.ValP
theorem width1 (s : ByteArray) (pos : Nat) (h : pos < s.size) : 1 ≤ (Utf8.decode s pos).2 := by
  by_cases ha : (s[pos]'h).toNat < 128
  · rw [Go.decode_ascii s pos h ha]
    exact Nat.le_refl _
  · exact (Go.decode_high s pos h (by omega)).2
theorem nextP_gt {l : List UInt8} {p : Nat} (h : p < l.length) : p < nextP l p := by
  unfold nextP
  rw [if_pos h]
  have := width1 ⟨l.toArray⟩ p h
  omega
theorem num_abs_tot {x : Int} (h : -9223372036854775808 ≤ x ∧ x ≤ 9223372036854775807) : Ok (num_abs x) (fun y => (x < 0 → y = -x) ∧ (0 ≤ x → y = x)) := by
  unfold num_abs
  refine Ok.bv fun z ez => Ok.it (fun e => Ok.bv fun a ea => Ok.bv fun b eb => Ok.sm ?_) (fun e => Ok.bv fun a ea => Ok.sm ?_)
  · simp [ez] at e
    have wb := wU64 eb
    simp [IntKind.wrap, IntKind.bits, IntKind.signed] at ea eb
    omega
  · simp [ez] at e
    have := (wU64 ea).2
    omega
theorem num_signed_tot {x : Int} {b : Bool} (h : 0 ≤ x ∧ x ≤ 18446744073709551615) : Ok (num_signed x b) (fun r => -9223372036854775807 ≤ r.1 ∧ r.1 ≤ 9223372036854775807) := by
  unfold num_signed
  refine Ok.bv fun z ez => Ok.it (fun e => Ok.sm ⟨by decide, by decide⟩) (fun e => ?_)
  simp [ez] at e
  refine Ok.it (fun _ => Ok.bv fun a ea => Ok.bv fun c ec => Ok.sm ?_) (fun _ => Ok.bv fun a ea => Ok.sm ?_)
  · have h1 := (wI64 ea).2 (by omega)
    have h2 := (wI64 ec).2 (by omega)
    simp only
    omega
  · have h1 := (wI64 ea).2 (by omega)
    simp only
    omega
theorem num_Add_tot (x y : Int) : Ok (num_Add x y) (fun r => r.2 = true → -9223372036854775807 ≤ r.1 ∧ r.1 ≤ 9223372036854775807) := by
  unfold num_Add num_fits
  refine Ok.bv fun z ez => Ok.ob (R := fun b => b = true → -9223372036854775807 ≤ z) (Ok.bv fun c ec => Ok.sm fun e => by simp [ec] at e; exact e) fun b eb hb => Ok.bv fun z1 e1 => Ok.bv fun z2 e2 => Ok.bv fun z3 e3 => Ok.bv fun z4 e4 => Ok.sm fun e => ?_
  simp only at e
  rw [e4] at e
  simp at e
  exact ⟨hb e.1, (wI64 ez).1.2⟩
theorem num_Sub_tot (x y : Int) : Ok (num_Sub x y) (fun r => r.2 = true → -9223372036854775807 ≤ r.1 ∧ r.1 ≤ 9223372036854775807) := by
  unfold num_Sub
  exact Ok.bv fun z ez => Ok.ob (num_Add_tot x z) fun b eb hb => Ok.sm hb
theorem num_scaled_tot {x y c : Int} (hx : 0 ≤ x ∧ x ≤ 18446744073709551615) (hy : 0 ≤ y ∧ y ≤ 18446744073709551615) (hc : 0 < c ∧ c ≤ 18446744073709551615) :
    Ok (num_scaled x y c) (fun r => 0 ≤ r.1 ∧ r.1 ≤ 18446744073709551615) := by
  unfold num_scaled
  refine Ok.ck ⟨hx, hy⟩ (Ok.bv fun z ez => Ok.bv fun b eb => Ok.it (fun _ => Ok.sm ⟨by decide, by decide⟩) (fun e => ?_))
  simp [eb] at e
  have h1 : 0 ≤ z.1 := by rw [ez]; exact Int.ediv_nonneg (Int.mul_nonneg hx.1 hy.1) (by decide)
  have h2 : 0 ≤ z.2 ∧ z.2 ≤ 18446744073709551615 := by rw [ez]; simp only; omega
  refine Ok.ob (bits_Div64_tot z.1 z.2 c ⟨h1, e⟩ h2 hc.2) fun r er hr => Ok.bv fun J eJ => ?_
  have hJ : ∀ s, 0 ≤ s ∧ s ≤ 18446744073709551615 → Ok (J s) (fun r => 0 ≤ r.1 ∧ r.1 ≤ 18446744073709551615) := by
    intro s hs
    rw [eJ]
    exact Ok.bv fun _ _ => Ok.bv fun _ _ => Ok.bv fun _ _ => Ok.bv fun _ _ => Ok.sm hs
  exact Ok.bv fun _ _ => Ok.bv fun _ _ => Ok.it (fun _ => Ok.bv fun q eq => hJ q (wU64 eq).1) (fun _ => hJ _ hr.1)
theorem num_Mul_tot {x y : Int} (hx : -9223372036854775808 ≤ x ∧ x ≤ 9223372036854775807) (hy : -9223372036854775808 ≤ y ∧ y ≤ 9223372036854775807) : Ok (num_Mul x y) (fun r => -9223372036854775807 ≤ r.1 ∧ r.1 ≤ 9223372036854775807) := by
  unfold num_Mul
  refine Ok.ob (num_abs_tot hx) fun a ea ha => Ok.ob (num_abs_tot hy) fun b eb hb => Ok.ob (num_scaled_tot (by omega) (by omega) ⟨by decide, by decide⟩) fun r er hr => Ok.bv fun z ez => Ok.it (fun _ => Ok.sm ⟨by decide, by decide⟩) (fun _ => ?_)
  exact Ok.bv fun _ _ => Ok.bv fun _ _ => Ok.bv fun _ _ => Ok.ob (num_signed_tot hr) fun q eq hq => Ok.sm hq
theorem num_Quo_tot {x y : Int} (hx : -9223372036854775808 ≤ x ∧ x ≤ 9223372036854775807) (hy : -9223372036854775808 ≤ y ∧ y ≤ 9223372036854775807) : Ok (num_Quo x y) (fun r => -9223372036854775807 ≤ r.1 ∧ r.1 ≤ 9223372036854775807) := by
  unfold num_Quo
  refine Ok.bv fun z ez => Ok.it (fun _ => Ok.sm ⟨by decide, by decide⟩) (fun e => ?_)
  simp [ez] at e
  refine Ok.ob (num_abs_tot hx) fun a ea ha => Ok.ob (num_abs_tot hy) fun b eb hb => Ok.ob (num_scaled_tot (by omega) ⟨by decide, by decide⟩ (by omega)) fun r er hr => Ok.bv fun z ez => Ok.it (fun _ => Ok.sm ⟨by decide, by decide⟩) (fun _ => ?_)
  exact Ok.bv fun _ _ => Ok.bv fun _ _ => Ok.bv fun _ _ => Ok.ob (num_signed_tot hr) fun q eq hq => Ok.sm hq
theorem num_Parse_tot (t : List UInt8) (ht : t.length ≤ 9223372036854775807) : Ok (num_Parse t) (fun r => -9223372036854775807 ≤ r.1 ∧ r.1 ≤ 9223372036854775807) := by
  unfold num_Parse
  refine Ok.bv fun J2 eJ2 => Ok.bv fun B eB => ?_
  have hJ2 : ∀ s : Int × Int × Int, 0 ≤ s.1 ∧ s.1 ≤ 18446744073709551615 → Ok (J2 s) (fun r => -9223372036854775807 ≤ r.1 ∧ r.1 ≤ 9223372036854775807) := by
    intro s hs
    rw [eJ2]
    refine Ok.bv fun J4 eJ4 => Ok.bv fun m em => Ok.bv fun B eB => ?_
    have hJ4 : ∀ v : Int, 0 ≤ v ∧ v ≤ 18446744073709551615 → Ok (J4 v) (fun r => -9223372036854775807 ≤ r.1 ∧ r.1 ≤ 9223372036854775807) := by
      intro v hv
      rw [eJ4]
      exact Ok.bv fun _ _ => Ok.bv fun _ _ => Ok.bv fun _ _ => Ok.it (fun _ => Ok.sm ⟨by decide, by decide⟩) (fun _ => Ok.ob (num_signed_tot hv) fun q eq hq => Ok.sm hq)
    subst eB
    refine Ok.lp (fun s => (0 ≤ s.1 ∧ s.1 ≤ 18446744073709551615) ∧ 0 ≤ s.2) (fun s => (6 - s.2).toNat) ⟨hs, by simp only; omega⟩ (by simp only; omega) fun s hI next ih => ?_
    refine Ok.bv fun c ec => Ok.it (fun e => ?_) (fun _ => hJ4 _ hI.1)
    simp [ec] at e
    refine Ok.ck ⟨hI.1, by decide, by decide⟩ (Ok.bv fun q eq => Ok.bv fun _ _ => Ok.it (fun _ => Ok.sm ⟨by decide, by decide⟩) (fun _ => Ok.bv fun i ei => ?_))
    have hi := (wI64 ei).2 (by omega)
    refine ih _ ⟨by rw [eq]; simp only; omega, by simp only; omega⟩ (by simp only; omega)
  subst eB
  refine Ok.lp (fun s => 0 ≤ s.1 ∧ s.1 ≤ 18446744073709551615) (fun s => t.length - s.2.2.2) ⟨by decide, by decide⟩ (by simp only; omega) fun s hI next ih => ?_
  refine Ok.bv fun c ec => Ok.it (fun e => ?_) (fun _ => hJ2 _ hI)
  rw [ec, decide_eq_true_eq] at e
  have hn := nextP_gt e
  refine Ok.bv fun J eJ => ?_
  have hJ : ∀ s', Ok (J s') (fun r => -9223372036854775807 ≤ r.1 ∧ r.1 ≤ 9223372036854775807) := by
    intro s'
    rw [eJ]
    refine Ok.ck ⟨hI, by decide, by decide⟩ (Ok.bv fun q eq => Ok.bv fun d ed => Ok.bv fun f ef => Ok.ck ⟨?_, ?_, by decide, by decide⟩ (Ok.bv fun g eg => Ok.bv fun _ _ => Ok.bv fun _ _ => Ok.it (fun _ => Ok.sm ⟨by decide, by decide⟩) (fun _ => Ok.bv fun i ei => ?_)))
    · rw [eq]; simp only; omega
    · exact (wU64 ef).1.1
    refine ih _ ?_ (by simp only; omega)
    rw [eg]; simp only; omega
  refine Ok.bv fun _ _ => Ok.bv fun _ _ => Ok.bv fun _ _ => Ok.it (fun _ => ih _ hI (by simp only; omega)) (fun _ => ?_)
  exact Ok.bv fun _ _ => Ok.bv fun _ _ => Ok.bv fun _ _ => Ok.bv fun _ _ => Ok.bv fun _ _ => Ok.it (fun _ => Ok.sm ⟨by decide, by decide⟩) (fun _ => Ok.bv fun _ _ => Ok.it (fun _ => Ok.bv fun _ _ => hJ _) (fun _ => hJ _))
theorem bOk_app {l m : List Int} (h : bytesOk l = true) (k : bytesOk m = true) : bytesOk (l ++ m) = true := by
  unfold bytesOk at *
  rw [List.all_append, h, k]; rfl
theorem bOk_one {z : Int} (h : 0 ≤ z ∧ z ≤ 255) : bytesOk [z] = true := by
  simp [bytesOk]; exact h
theorem bOk_gel {l : List Int} (h : bytesOk l = true) (i : Int) : 0 ≤ gel l i ∧ gel l i ≤ 255 := by
  unfold bytesOk at h
  rw [List.all_eq_true] at h
  unfold gel
  by_cases hi : i.toNat < l.length
  · rw [List.getD_eq_getElem?_getD, List.getElem?_eq_getElem hi]
    have := h _ (List.getElem_mem hi)
    simpa using this
  · rw [List.getD_eq_getElem?_getD, List.getElem?_eq_none (by omega)]
    exact ⟨by decide, by decide⟩
theorem bOk_set {l : List Int} (h : bytesOk l = true) (i : Nat) {z : Int} (hz : 0 ≤ z ∧ z ≤ 255) : bytesOk (l.set i z) = true := by
  unfold bytesOk at *
  rw [List.all_eq_true] at *
  intro x hx
  rcases List.mem_or_eq_of_mem_set hx with h' | h'
  · exact h x h'
  · rw [h']; simpa using hz
theorem num_Print_tot {x : Int} (hx : -9223372036854775808 ≤ x ∧ x ≤ 9223372036854775807) : Ok (num_Print x) (fun r => r.length ≤ 41) := by
  unfold num_Print
  refine Ok.ob (num_abs_tot hx) fun y ey hy => Ok.bv fun J4 eJ4 => Ok.bv fun B eB => ?_
  have hJ4 : ∀ s : List Int, bytesOk s = true ∧ s.length ≤ 40 → Ok (J4 s) (fun r => r.length ≤ 41) := by
    intro s hs
    rw [eJ4]
    refine Ok.bv fun J7 eJ7 => ?_
    have hJ7 : ∀ s : List Int, bytesOk s = true ∧ s.length ≤ 41 → Ok (J7 s) (fun r => r.length ≤ 41) := by
      intro s hs
      rw [eJ7]
      refine Ok.bv fun J10 eJ10 => Ok.bv fun n en => Ok.bv fun B eB => ?_
      have hJ10 : ∀ s : List Int, bytesOk s = true ∧ s.length ≤ 41 → Ok (J10 s) (fun r => r.length ≤ 41) := by
        intro s hs
        rw [eJ10]
        exact Ok.ck hs.1 (Ok.bv fun v ev => Ok.sm (by rw [ev]; simpa [toB] using hs.2))
      have hn := (wI64 en).2 (by omega)
      subst eB
      refine Ok.lp (fun s => (0 ≤ s.1 ∧ s.2.1 < (s.2.2.length : Int) ∧ s.1 ≤ 41) ∧ bytesOk s.2.2 = true ∧ s.2.2.length ≤ 41) (fun s => (s.2.1 - s.1).toNat) ⟨by simp only; omega, hs⟩ (by simp only; omega) fun s hI next ih => ?_
      refine Ok.bv fun c ec => Ok.it (fun e => ?_) (fun _ => hJ10 _ hI.2)
      rw [ec, decide_eq_true_eq] at e
      refine Ok.ck (by omega) (Ok.ck (by omega) (Ok.bv fun r er => Ok.bv fun i ei => Ok.bv fun j ej => ?_))
      have hi := (wI64 ei).2 (by omega)
      have hj := (wI64 ej).2 (by omega)
      have hl : r.length = s.2.2.length := by rw [er, List.length_set, List.length_set]
      refine ih _ ⟨by simp only; omega, ?_, by simp only; omega⟩ (by simp only; omega)
      simp only
      rw [er]
      exact bOk_set (bOk_set hI.2.1 _ (bOk_gel hI.2.1 _)) _ (bOk_gel hI.2.1 _)
    refine Ok.bv fun c ec => Ok.it (fun e => Ok.ck (by simp; omega) (Ok.bv fun r er => hJ7 _ ?_)) (fun _ => hJ7 _ ⟨hs.1, by omega⟩)
    rw [er]
    exact ⟨bOk_app hs.1 (by decide), by simp; omega⟩
  subst eB
  refine Ok.lp (fun s => ∃ k : Nat, s.2.2.1 = (k : Int) ∧ k ≤ 20 ∧ (0 ≤ s.1 ∧ s.1 < ((10 ^ (20 - k) : Nat) : Int)) ∧ bytesOk s.2.2.2 = true ∧ s.2.2.2.length ≤ 2 * k) (fun s => (21 - s.2.2.1).toNat) ⟨0, rfl, by decide, ⟨by simp only; omega, ?_⟩, rfl, by simp⟩ (by simp) fun s hI next ih => ?_
  · show y < ((10 ^ 20 : Nat) : Int)
    rw [show (10 ^ 20 : Nat) = 100000000000000000000 from rfl]
    omega
  obtain ⟨k, hk, hk20, hu, hb, hl⟩ := hI
  refine Ok.bv fun c1 ec1 => Ok.bv fun c2 ec2 => Ok.bv fun c ec => Ok.it (fun e => ?_) (fun _ => hJ4 _ ⟨hb, by omega⟩)
  simp [ec, ec1, ec2] at e
  have hk' : k < 20 := by
    rcases Nat.lt_or_ge k 20 with h | h
    · exact h
    · have : k = 20 := by omega
      subst this
      have h1 : (10 ^ (20 - 20) : Nat) = 1 := rfl
      rw [h1] at hu
      omega
  have hp : (10 ^ (20 - k) : Nat) = 10 * 10 ^ (20 - (k + 1)) := by
    rw [show 20 - k = (20 - (k + 1)) + 1 by omega, Nat.pow_succ, Nat.mul_comm]
  have hu2 : (10 ^ (20 - k) : Nat) ≤ 100000000000000000000 := Nat.pow_le_pow_right (n := 10) (by decide) (show 20 - k ≤ 20 by omega)
  refine Ok.bv fun J46 eJ46 => Ok.bv fun J50 eJ50 => ?_
  have hJ46 : ∀ s' : Int × Bool × List Int, s'.1 = s.1 / 10 ∧ bytesOk s'.2.2 = true ∧ s'.2.2.length ≤ 2 * (k + 1) → Ok (J46 s') (fun r => r.length ≤ 41) := by
    intro s' h'
    rw [eJ46]
    refine Ok.bv fun i ei => ih _ ?_ ?_
    · have hi := (wI64 ei).2 (by omega)
      refine ⟨k + 1, by simp only; omega, by omega, ?_, h'.2⟩
      simp only
      rw [h'.1]
      omega
    · have hi := (wI64 ei).2 (by omega)
      simp only
      omega
  have hJ50 : ∀ s' : Bool × List Int, bytesOk s'.2 = true ∧ s'.2.length ≤ 2 * k + 1 → Ok (J50 s') (fun r => r.length ≤ 41) := by
    intro s' h'
    rw [eJ50]
    refine Ok.bv fun d ed => Ok.bv fun d' ed' => Ok.bv fun q eq => Ok.bv fun _ _ => Ok.bv fun _ _ => ?_
    have hd : s.1.tdiv 10 = s.1 / 10 := Int.tdiv_eq_ediv_of_nonneg hu.1
    have hq := (wU64 eq).2 (by omega)
    refine Ok.it (fun _ => hJ46 _ ⟨by simp only; omega, h'.1, by simp only; omega⟩) (fun _ => Ok.bv fun b eb => Ok.ck (by simp; omega) (Ok.bv fun l el => hJ46 _ ⟨by simp only; omega, ?_, ?_⟩))
    · simp only; rw [el]; exact bOk_app h'.1 (bOk_one (wU8 eb).1)
    · simp only; rw [el]; simp; omega
  refine Ok.bv fun _ _ => Ok.it (fun _ => Ok.bv fun _ _ => Ok.it (fun _ => Ok.ck (by simp; omega) (Ok.bv fun l el => hJ50 _ ⟨?_, ?_⟩)) (fun _ => hJ50 _ ⟨hb, by simp only; omega⟩)) (fun _ => hJ50 _ ⟨hb, by simp only; omega⟩)
  · simp only; rw [el]; exact bOk_app hb (by decide)
  · simp only; rw [el]; simp; omega
end Go.Sp
