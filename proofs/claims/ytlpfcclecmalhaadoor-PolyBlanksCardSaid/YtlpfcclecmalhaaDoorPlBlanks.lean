/- The law PolyBlanks, plain. -/
import Derived.Test.YtlpfcclecmalhaaDoorPlTexts
import Derived.Test.YtlpfcclecmalhaaDoorPlDiv
import Derived.Test.YtlpfcclecmalhaaDoorSpH
import Derived.Laws.BitsLemmas
set_option linter.unusedSimpArgs false
set_option linter.unusedVariables false
set_option linter.unusedSectionVars false
namespace Go.Sp
open Go.Stp Go.ValP
theorem i64_and3 (n : Int) : bits .and .i64 n 3 = n % 4 := by
  have h127 : (BitVec.ofInt 64 3).toNat = 2 ^ 2 - 1 := by decide
  have key : (BitVec.ofInt 64 n &&& BitVec.ofInt 64 3).toNat = (n % ((2 ^ 64 : Nat) : Int)).toNat % 2 ^ 2 := by
    rw [BitVec.toNat_and, BitVec.toNat_ofInt, h127, Nat.and_two_pow_sub_one_eq_mod]
  show IntKind.i64.wrap ((BitVec.ofInt 64 n &&& BitVec.ofInt 64 3).toNat : Nat) = n % 4
  rw [key, IntKind.wrap_i64]
  omega
theorem i64_and15 (n : Int) : bits .and .i64 n 15 = n % 16 := by
  have h127 : (BitVec.ofInt 64 15).toNat = 2 ^ 4 - 1 := by decide
  have key : (BitVec.ofInt 64 n &&& BitVec.ofInt 64 15).toNat = (n % ((2 ^ 64 : Nat) : Int)).toNat % 2 ^ 4 := by
    rw [BitVec.toNat_and, BitVec.toNat_ofInt, h127, Nat.and_two_pow_sub_one_eq_mod]
  show IntKind.i64.wrap ((BitVec.ofInt 64 n &&& BitVec.ofInt 64 15).toNat : Nat) = n % 16
  rw [key, IntKind.wrap_i64]
  omega
/-- What a cell is in these laws. -/
def atG (a : A4) (c : C) : Int := bits .and .i64 (gel [a.a, a.b, a.c, a.d] (bits .and .i64 c.c 3)) 15
theorem i64_3 {x : Int} : 0 ≤ bits .and .i64 x 3 ∧ bits .and .i64 x 3 ≤ 3 := by rw [i64_and3]; omega
theorem atG_bd {a : A4} {c : C} : 0 ≤ atG a c ∧ atG a c ≤ 15 :=
  by unfold atG; rw [i64_and15]; omega
theorem Blanks1_eq {a : A4} {c : C} : reckonerlaw15_PolyBlanks_1 c a = some (atG a c) := by
  have h3 := i64_3 (x := c.c)
  unfold reckonerlaw15_PolyBlanks_1 atG bindv chk
  dsimp only
  rw [if_pos (by omega)]
theorem Blanks2_eq {c g : C} {get : C → Option Int} {v : Int} (hg : get c = some v) : reckonerlaw15_PolyBlanks_2 c g get = some (if c = g then 0 else v) := by
  unfold reckonerlaw15_PolyBlanks_2 bindv
  rw [C_eqB]
  by_cases h : c = g
  · simp [h]
  · simp [h, hg, obind]
theorem prG_gone {g : C → Int} {d : C} : ∀ {l : List C}, prG (fun c => if c = d then 0 else g c) l = if d ∈ l then 0 else prG g l
  | [] => by simp [prG]
  | c :: l => by
    simp only [prG, prG_gone (l := l), List.mem_cons]
    by_cases h1 : c = d
    · simp [h1]
    · have h1' : ¬ d = c := fun e => h1 e.symm
      by_cases h2 : d ∈ l
      · simp [h2]
      · simp [h1, h2, h1']
theorem EV_gone {g : C → Int} {d : C} : ∀ {p : List T}, EV (prG fun c => if c = d then 0 else g c) p = EV (prG g) (p.filter fun t => !decide (d ∈ t.v))
  | [] => rfl
  | t :: p => by
    simp only [EV, EV_gone (p := p), prG_gone, List.filter_cons]
    by_cases h : d ∈ t.v
    · simp [h]
    · simp [h, EV]
theorem PolyBlanks_tot {l : List Int} {a : A4} {k : Int} (hl : (l.length : Int) ≤ 9223372036854775807) (hb : ∀ x ∈ l, 0 ≤ x ∧ x ≤ 255) : Ok (reckonerlaw15_PolyBlanks l a k) (fun r => r = true) := by
  unfold reckonerlaw15_PolyBlanks
  refine Ok.ob fit15_tot fun y _ hy => Ok.bv fun z1 e1 => Ok.it (fun h => ?_) fun _ => ?_
  · rw [e1, hy] at h
    cases h
  refine Ok.ob (Make_tot hl hb) fun x _ hx => Ok.bv fun z30 e30 => Ok.it (fun _ => Ok.sm rfl) fun h => ?_
  have mx := hx.2 (by rw [e30] at h; simpa using h)
  obtain ⟨p, po⟩ := x
  simp only at mx ⊢
  clear hx h e30
  have lx := mx.len
  refine Ok.bv fun z32 e32 => ?_
  refine Ok.bv fun J hJ => ?_
  have hJ' : Ok (J (p.filter fun t => !decide ((⟨0, z32, 0⟩ : C) ∈ t.v))) (fun r => r = true) := by
    rw [hJ]
    have hval : ∀ (g : C → Int), (∀ t ∈ p, ∀ c ∈ t.v, 0 ≤ g c ∧ g c ≤ 15) → ∀ t ∈ p, ValT g t := fun g hg t ht => ⟨(mx.told t ht).n, (mx.told t ht).l, hg t ht⟩
    rw [poly_Num_eq (g := fun c => if c = ⟨0, z32, 0⟩ then 0 else atG a c) (by omega) (hval _ fun t ht c hc => by
      have := atG_bd (a := a) (c := c)
      split <;> omega) (fun t ht c hc => Blanks2_eq (Blanks1_eq))]
    refine Ok.os fun y1 f1 => ?_
    have hsub : ∀ t ∈ p.filter (fun t => !decide ((⟨0, z32, 0⟩ : C) ∈ t.v)), t ∈ p := fun t ht => (List.mem_filter.1 ht).1
    rw [poly_Num_eq (g := atG a) (Nat.le_trans (List.length_filter_le _ _) (by omega)) (fun t ht => hval _ (fun t ht c hc => atG_bd (a := a) (c := c)) t (hsub t ht)) (fun t ht c hc => Blanks1_eq)]
    refine Ok.os fun y2 f2 => Ok.bv fun a1 b1 => Ok.bv fun a2 b2 => Ok.bv fun a3 b3 => Ok.sm ?_
    rw [b3, b2, b1, f1, f2, EV_gone]
    simp
  clear hJ
  refine Ok.bv fun B hB => ?_
  subst hB
  refine Ok.lp (fun s : Int × List T => 0 ≤ s.1 ∧ s.1 ≤ p.length ∧ s.2 = (p.take s.1.toNat).filter fun t => !decide ((⟨0, z32, 0⟩ : C) ∈ t.v)) (fun s => (p.length - s.1).toNat) ⟨by simp, by simp, by simp⟩ (by simp only; omega) ?_
  rintro ⟨i, r⟩ ⟨s0, s1, s2⟩ next ih
  simp only at s0 s1 s2 ⊢
  refine Ok.bv fun z39 e39 => Ok.it (fun h => ?_) fun h => ?_
  · have hlt : i < p.length := by rw [e39] at h; simpa using h
    refine Ok.ck ⟨s0, hlt⟩ (Ok.bv fun t et => Ok.bv fun J42 hJ42 => ?_)
    have htm : t ∈ p := by rw [et]; exact gel_mem ⟨s0, hlt⟩
    have htl := (mx.told t htm).l
    have htk := take_gel s0 hlt
    rw [← et] at htk
    have hr : r.length ≤ p.length := by
      rw [s2]
      exact Nat.le_trans (List.length_filter_le _ _) (by rw [List.length_take]; omega)
    have h42 : Ok (J42 (decide ((⟨0, z32, 0⟩ : C) ∈ t.v))) (fun r => r = true) := by
      rw [hJ42]
      refine Ok.bv fun z57 e57 => Ok.it (fun h => ?_) fun h => ?_
      · refine Ok.ck (by simp; omega) (Ok.bv fun r' er => Ok.bv fun z62 e62 => ?_)
        have e62' : z62 = i + 1 := (wI64 e62).2 (by omega)
        refine ih _ ⟨by simp only; omega, by simp only; omega, ?_⟩ (by simp only; omega)
        simp only [e62', htk, List.filter_append, ← s2, er]
        rw [e57] at h
        simp [List.filter_cons, h]
      · refine Ok.bv fun z62 e62 => ?_
        have e62' : z62 = i + 1 := (wI64 e62).2 (by omega)
        refine ih _ ⟨by simp only; omega, by simp only; omega, ?_⟩ (by simp only; omega)
        simp only [e62', htk, List.filter_append, ← s2]
        rw [e57] at h
        simp [List.filter_cons, h]
    clear hJ42
    refine Ok.bv fun B hB => ?_
    subst hB
    refine Ok.lp (fun u : Bool × Int => 0 ≤ u.2 ∧ u.2 ≤ t.v.length ∧ u.1 = decide ((⟨0, z32, 0⟩ : C) ∈ t.v.take u.2.toNat)) (fun u => (t.v.length - u.2).toNat) ⟨by simp, by simp, by simp⟩ (by simp only; omega) ?_
    rintro ⟨b, j⟩ ⟨u0, u1, u2⟩ next2 ih2
    simp only at u0 u1 u2 ⊢
    refine Ok.bv fun z46 e46 => Ok.it (fun h => ?_) fun h => ?_
    · have hlt2 : j < t.v.length := by rw [e46] at h; simpa using h
      refine Ok.ck ⟨u0, hlt2⟩ (Ok.bv fun c ec => Ok.bv fun z53 e53 => Ok.bv fun z54 e54 => Ok.bv fun z55 e55 => ?_)
      have e55' : z55 = j + 1 := (wI64 e55).2 (by omega)
      have htk2 := take_gel u0 hlt2
      rw [← ec] at htk2
      refine ih2 _ ⟨by simp only; omega, by simp only; omega, ?_⟩ (by simp only; omega)
      have h53 : z53 = decide (c = ⟨0, z32, 0⟩) := by rw [e53]; exact C_eqB c ⟨0, z32, 0⟩
      simp only [e55', htk2, e54, h53, u2]
      rw [Bool.eq_iff_iff]
      simp only [Bool.or_eq_true, decide_eq_true_eq, List.mem_append, List.mem_singleton]
      constructor
      · rintro (h | h)
        · exact .inl h
        · exact .inr h.symm
      · rintro (h | h)
        · exact .inl h
        · exact .inr h.symm
    · have hge : ¬ j < t.v.length := by rw [e46] at h; simpa using h
      rw [List.take_of_length_le (by omega)] at u2
      rw [u2]
      exact h42
  · have hge : ¬ i < p.length := by rw [e39] at h; simpa using h
    rw [List.take_of_length_le (by omega)] at s2
    rw [s2]
    exact hJ'
end Go.Sp
