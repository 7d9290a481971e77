/- The functions of package num and those of the library below them have an answer. -/
import Derived.Test.YtlpfcclecmalhaaDoorPlOk
import Derived.Test.YtlpfcclecmalhaaDoorSpC
set_option linter.unusedSimpArgs false
set_option linter.unusedVariables false
set_option linter.unusedSectionVars false
namespace Go.Sp
open Go.Stp Go.ValP
theorem bitLen_bd {x : Nat} (h : x < 18446744073709551616) (h0 : x ≠ 0) : 1 ≤ Lib.bitLen x ∧ Lib.bitLen x ≤ 64 ∧ 2 ^ (Lib.bitLen x - 1) ≤ x ∧ x < 2 ^ Lib.bitLen x := by
  obtain ⟨h1, h2, h3⟩ := Lib.bitLenAux_bounds 64 x h h0
  exact ⟨h1, Lib.bitLen_le x 64 (Nat.le_refl _) h, h2, h3⟩
/-- The normalised divisor: at least 2^63, below 2^64. -/
theorem shl_norm {y z : Int} (h : 0 < y ∧ y ≤ 18446744073709551615) (e : z = shlI .u64 y (64 - (Lib.bitLen y.toNat : Int))) : 9223372036854775808 ≤ z ∧ z ≤ 18446744073709551615 := by
  obtain ⟨Y, rfl⟩ := Int.eq_ofNat_of_zero_le (show 0 ≤ y by omega)
  obtain ⟨b1, b2, b3, b4⟩ := bitLen_bd (x := Y) (by omega) (by omega)
  rw [Int.toNat_natCast] at e
  generalize Lib.bitLen Y = b at *
  have e2 : min (64 - (b : Int)).toNat (IntKind.u64.bits) = 64 - b := by
    have : IntKind.u64.bits = 64 := rfl
    rw [this]
    omega
  unfold shlI at e
  rw [e2] at e
  have e3 : (2 : Nat) ^ (b - 1) * 2 ^ (64 - b) = 2 ^ 63 := by rw [← Nat.pow_add]; congr 1; omega
  have e4 : (2 : Nat) ^ b * 2 ^ (64 - b) = 2 ^ 64 := by rw [← Nat.pow_add]; congr 1; omega
  have h5 : 2 ^ 63 ≤ Y * 2 ^ (64 - b) := by rw [← e3]; exact Nat.mul_le_mul_right _ b3
  have h6 : Y * 2 ^ (64 - b) < 2 ^ 64 := by rw [← e4]; exact Nat.mul_lt_mul_of_pos_right b4 (Nat.pow_pos (by decide))
  have e7 : ((Y : Int) * 2 ^ (64 - b)) = ((Y * 2 ^ (64 - b) : Nat) : Int) := by simp
  rw [e7] at e
  have w := wU64 e
  have := w.2 (by omega)
  omega
theorem shr32 {z x : Int} (h : 0 ≤ x) (e : z = shrI .u64 x 32) : z = x / 4294967296 := by
  subst e
  unfold shrI
  have : min (32 : Int).toNat (IntKind.u64.bits) = 32 := rfl
  rw [this, Int.fdiv_eq_ediv_of_nonneg _ (by decide)]
  rfl
theorem shr_nn {z x q : Int} (h : 0 ≤ x ∧ x ≤ 18446744073709551615) (e : z = shrI .u64 x q) : 0 ≤ z ∧ z ≤ 18446744073709551615 := by
  subst e
  unfold shrI
  have hp : (0 : Int) < 2 ^ (min q.toNat (IntKind.u64.bits)) := Int.pow_pos (by decide)
  rw [Int.fdiv_eq_ediv_of_nonneg _ (by omega)]
  refine ⟨Int.ediv_nonneg h.1 (by omega), Int.le_trans (Int.ediv_le_self _ h.1) h.2⟩
theorem bits_Div64_tot (x0 x1 x2 : Int) (h0 : 0 ≤ x0 ∧ x0 < x2) (h1 : 0 ≤ x1 ∧ x1 ≤ 18446744073709551615) (h2 : x2 ≤ 18446744073709551615) :
    Ok (bits_Div64 x0 x1 x2) (fun r => (0 ≤ r.1 ∧ r.1 ≤ 18446744073709551615) ∧ 0 ≤ r.2 ∧ r.2 ≤ 18446744073709551615) := by
  unfold bits_Div64
  refine Ok.bv fun J2 eJ2 => Ok.bv fun z0 ez0 => Ok.it (fun e => ?_) (fun _ => ?_)
  · rw [ez0] at e; simp at e; omega
  rw [eJ2]
  refine Ok.bv fun J4 eJ4 => Ok.bv fun z1 ez1 => Ok.it (fun e => ?_) (fun _ => ?_)
  · rw [ez1] at e; simp at e; omega
  rw [eJ4]
  refine Ok.bv fun z2 ez2 => Ok.it (fun e => ?_) (fun e => ?_)
  · refine Ok.ck (by omega) (Ok.bv fun q eq => Ok.ck (by omega) (Ok.bv fun r er => Ok.sm ?_))
    have := wU64 eq
    have t := tmod_bd x1 (c := x2) (by omega)
    have := t.2.2.2.1 h1.1
    exact ⟨(wU64 eq).1, by omega⟩
  refine Ok.ck (by omega) (Ok.bv fun s es => Ok.bv fun s' es' => ?_)
  obtain ⟨b1, b2, b3, b4⟩ := bitLen_bd (x := x2.toNat) (by omega) (by omega)
  have w := wU64 es'
  have hs : s' = 64 - (Lib.bitLen x2.toNat : Int) := by rw [w.2 (by omega), es]
  refine Ok.ck (by omega) (Ok.bv fun y ey => Ok.ck (by decide) (Ok.bv fun yn1 eyn1 => Ok.bv fun yn0 eyn0 => Ok.ck (by omega) (Ok.bv fun z46 e46 => Ok.bv fun z49 e49 => ?_)))
  rw [hs] at ey
  have hy := shl_norm (by omega) ey
  have hyn1 := shr32 (by omega) eyn1
  have w49 := wU64 e49
  have h49 := w49.2 (by omega)
  refine Ok.ck (by omega) (Ok.bv fun z50 e50 => Ok.bv fun un32 e51 => Ok.ck (by omega) (Ok.bv fun un10 e54 => Ok.ck (by decide) (Ok.bv fun un1 e56 => Ok.bv fun un0 e58 => Ok.ck (by omega) (Ok.bv fun q1 eq1 => Ok.bv fun z65 e65 => Ok.bv fun rh erh => ?_))))
  refine Ok.bv fun J37 eJ37 => ?_
  have hJ : ∀ q, Ok (J37 q) (fun r => (0 ≤ r.1 ∧ r.1 ≤ 18446744073709551615) ∧ 0 ≤ r.2 ∧ r.2 ≤ 18446744073709551615) := by
    intro q
    rw [eJ37]
    refine Ok.bv fun z87 e87 => Ok.bv fun z89 e89 => Ok.bv fun z92 e92 => Ok.bv fun z93 e93 => Ok.ck (by omega) (Ok.bv fun q0 eq0 => Ok.bv fun z100 e100 => Ok.bv fun rh2 erh2 => Ok.bv fun J47 eJ47 => ?_)
    have hJ2 : ∀ q', Ok (J47 q') (fun r => (0 ≤ r.1 ∧ r.1 ≤ 18446744073709551615) ∧ 0 ≤ r.2 ∧ r.2 ≤ 18446744073709551615) := by
      intro q'
      rw [eJ47]
      refine Ok.bv fun a1 ea1 => Ok.bv fun a2 ea2 => Ok.bv fun a3 ea3 => Ok.bv fun a4 ea4 => Ok.bv fun a5 ea5 => Ok.bv fun a6 ea6 => Ok.ck (by omega) (Ok.bv fun a7 ea7 => Ok.sm ⟨(wU64 ea2).1, shr_nn (wU64 ea6).1 ea7⟩)
    refine Ok.bv fun B eB => ?_
    subst eB
    refine Ok.lp (fun s => 0 ≤ s.1 ∧ s.1 ≤ 18446744073709551615) (fun s => if s.1 < 4294967296 then (4294967296 - s.1).toNat else 4294967297) (wU64 erh2).1 (by have := (wU64 erh2).1; simp only; split <;> omega) fun s hI next ih => ?_
    refine Ok.bv fun c1 ec1 => Ok.bv fun c2 ec2 => Ok.bv fun c3 ec3 => Ok.bv fun c4 ec4 => Ok.bv fun c5 ec5 => Ok.bv fun c6 ec6 => Ok.it (fun _ => ?_) (fun _ => hJ2 _)
    refine Ok.bv fun d1 ed1 => Ok.bv fun d2 ed2 => Ok.bv fun d3 ed3 => Ok.it (fun _ => hJ2 _) (fun e => ?_)
    rw [ed3] at e
    simp at e
    have wd := wU64 ed2
    refine ih _ wd.1 ?_
    simp only
    rw [if_pos e]
    split
    · have := wd.2 (by omega); omega
    · omega
  refine Ok.bv fun B eB => ?_
  subst eB
  refine Ok.lp (fun s => 0 ≤ s.2 ∧ s.2 ≤ 18446744073709551615) (fun s => if s.2 < 4294967296 then (4294967296 - s.2).toNat else 4294967297) (wU64 erh).1 (by have := (wU64 erh).1; simp only; split <;> omega) fun s hI next ih => ?_
  refine Ok.bv fun c1 ec1 => Ok.bv fun c2 ec2 => Ok.bv fun c3 ec3 => Ok.bv fun c4 ec4 => Ok.bv fun c5 ec5 => Ok.bv fun c6 ec6 => Ok.it (fun _ => ?_) (fun _ => hJ _)
  refine Ok.bv fun d1 ed1 => Ok.bv fun d2 ed2 => Ok.bv fun d3 ed3 => Ok.it (fun _ => hJ _) (fun e => ?_)
  rw [ed3] at e
  simp at e
  have wd := wU64 ed2
  refine ih _ wd.1 ?_
  simp only
  rw [if_pos e]
  split
  · have := wd.2 (by omega); omega
  · omega
end Go.Sp
