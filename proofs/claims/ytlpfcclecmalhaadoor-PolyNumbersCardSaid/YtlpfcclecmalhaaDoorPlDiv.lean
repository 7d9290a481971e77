/- Division by 1000000 as package math/bits does it; products and sums of numbers that are whole. -/
import Derived.Test.YtlpfcclecmalhaaDoorPlUnits
import Derived.Test.YtlpfcclecmalhaaDoorPlNum
import Derived.Laws.Bits64b
import Derived.Laws.MathBits
set_option linter.unusedSimpArgs false
set_option linter.unusedVariables false
set_option linter.unusedSectionVars false
namespace Go.Sp
open Go.Stp Go.ValP
theorem num_abs_val {x : Int} (h : -9223372036854775808 ≤ x ∧ x ≤ 9223372036854775807) : Ok (num_abs x) (fun y => (x < 0 → y = -x) ∧ (0 ≤ x → y = x)) := by
  unfold num_abs
  refine Ok.bv fun z ez => Ok.it (fun e => Ok.bv fun a ea => Ok.bv fun b eb => Ok.sm ?_) (fun e => Ok.bv fun a ea => Ok.sm ?_)
  · simp [ez] at e
    have wb := wU64 eb
    simp [IntKind.wrap, IntKind.bits, IntKind.signed] at ea eb
    omega
  · simp [ez] at e
    have := (wU64 ea).2
    omega
theorem shl44 {z x : Int} (e : z = shlI .u64 x 44) : z = x * 17592186044416 % 18446744073709551616 := by
  subst e
  unfold shlI
  have : min (44 : Int).toNat (IntKind.u64.bits) = 44 := rfl
  rw [this]
  simp [IntKind.wrap, IntKind.bits, IntKind.signed]
theorem shr44 {z x : Int} (h : 0 ≤ x) (e : z = shrI .u64 x 44) : z = x / 17592186044416 := by
  subst e
  unfold shrI
  have : min (44 : Int).toNat (IntKind.u64.bits) = 44 := rfl
  rw [this, Int.fdiv_eq_ediv_of_nonneg _ (by decide)]
  rfl
theorem shr20 {z x : Int} (h : 0 ≤ x) (e : z = shrI .u64 x 20) : z = x / 1048576 := by
  subst e
  unfold shrI
  have : min (20 : Int).toNat (IntKind.u64.bits) = 20 := rfl
  rw [this, Int.fdiv_eq_ediv_of_nonneg _ (by decide)]
  rfl
theorem or44 {z a b : Int} (ha : 0 ≤ a ∧ a < 1000000) (hb : 0 ≤ b ∧ b < 17592186044416) (e : z = bits .or .u64 (a * 17592186044416) b) : z = a * 17592186044416 + b := by
  obtain ⟨A, rfl⟩ := Int.eq_ofNat_of_zero_le ha.1
  obtain ⟨B, rfl⟩ := Int.eq_ofNat_of_zero_le hb.1
  have e1 : ((A : Int) * 17592186044416) = ((2 ^ 44 * A : Nat) : Int) := by
    rw [Int.natCast_mul, Int.mul_comm]
    rfl
  rw [e1, u64_or_nat (2 ^ 44 * A) B (by omega) (by omega), ← Nat.two_pow_add_eq_or_of_lt (by omega : B < 2 ^ 44) A] at e
  rw [e]
  omega
theorem wU64m {z E : Int} (e : z = IntKind.wrap .u64 E) : z = E % 18446744073709551616 := by
  rw [e]
  simp [IntKind.wrap, IntKind.bits, IntKind.signed]
theorem bitLen_M : Lib.bitLen (Int.toNat 1000000) = 20 := by decide +kernel
theorem tdiv_pos {a c : Int} (ha : 0 ≤ a) : a.tdiv c = a / c := Int.tdiv_eq_ediv_of_nonneg ha
theorem bits_Div64_M {h l : Int} (h0 : 0 ≤ h ∧ h < 1000000) (l0 : 0 ≤ l ∧ l ≤ 18446744073709551615) :
    Ok (bits_Div64 h l 1000000) (fun r => r.1 * 1000000 + r.2 = h * 18446744073709551616 + l ∧ 0 ≤ r.2 ∧ r.2 < 1000000 ∧ 0 ≤ r.1) := by
  unfold bits_Div64
  refine Ok.bv fun J2 eJ2 => Ok.bv fun z0 ez0 => Ok.it (fun e => ?_) (fun _ => ?_)
  · rw [ez0] at e; simp at e
  rw [eJ2]
  refine Ok.bv fun J4 eJ4 => Ok.bv fun z1 ez1 => Ok.it (fun e => ?_) (fun _ => ?_)
  · rw [ez1] at e; simp at e; omega
  rw [eJ4]
  clear eJ4 eJ2 ez0 ez1
  refine Ok.bv fun z2 ez2 => Ok.it (fun e => ?_) (fun e => ?_)
  · refine Ok.ck (by omega) (Ok.bv fun q eq => Ok.ck (by omega) (Ok.bv fun r er => Ok.sm ?_))
    have hh : h = 0 := by rw [ez2] at e; simpa using e
    rw [tdiv_pos l0.1] at eq
    have e1 := (wU64 eq).2 (by omega)
    rw [Int.tmod_eq_emod_of_nonneg l0.1] at er
    simp only
    omega
  clear ez2 e
  refine Ok.ck (by omega) (Ok.bv fun s es => Ok.bv fun s' es' => ?_)
  rw [bitLen_M] at es
  have hs : s' = 44 := by have := (wU64 es').2 (by omega); omega
  subst hs
  clear es es'
  refine Ok.ck (by omega) (Ok.bv fun y ey => Ok.ck (by decide) (Ok.bv fun yn1 eyn1 => Ok.bv fun yn0 eyn0 => Ok.ck (by omega) (Ok.bv fun z46 e46 => Ok.bv fun z49 e49 => ?_)))
  have hy : y = 17592186044416000000 := by have := shl44 ey; omega
  subst hy
  have hyn1 : yn1 = 4096000000 := by have := shr32 (by omega) eyn1; omega
  subst hyn1
  have hyn0 : yn0 = 0 := by rw [and_low32 _ (by omega) (by omega)] at eyn0; omega
  subst hyn0
  have h46 : z46 = h * 17592186044416 := by have := shl44 e46; omega
  subst h46
  have h49 : z49 = 20 := by have := (wU64 e49).2 (by omega); omega
  subst h49
  clear ey eyn1 eyn0 e46 e49
  refine Ok.ck (by omega) (Ok.bv fun z50 e50 => Ok.bv fun un32 e51 => Ok.ck (by omega) (Ok.bv fun un10 e54 => Ok.ck (by decide) (Ok.bv fun un1 e56 => Ok.bv fun un0 e58 => Ok.ck (by omega) (Ok.bv fun q1 eq1 => Ok.bv fun z65 e65 => Ok.bv fun rh erh => ?_))))
  have h50 := shr20 l0.1 e50
  have h51 := or44 h0 (by omega) e51
  have h54 := shl44 e54
  have h56 := shr32 (by omega) e56
  have h58 : un0 = 0 := by rw [and_low32 _ (by omega) (by omega)] at e58; omega
  subst h58
  clear e50 e51 e54 e56 e58
  have hun1 : un1 = l % 1048576 * 4096 := by omega
  rw [tdiv_pos (by omega)] at eq1
  have hq1 := (wU64 eq1).2 (by omega)
  have h65 := (wU64 e65).2 (by omega)
  have hrh := (wU64 erh).2 (by omega)
  have hrb : 0 ≤ rh ∧ rh < 4096000000 := by omega
  have hqb : 0 ≤ q1 ∧ q1 < 4294967296 := by omega
  have hdiv : un32 = q1 * 4096000000 + rh := by omega
  clear eq1 e65 erh hq1 hrh h65
  refine Ok.bv fun J37 eJ37 => ?_
  have hJ : Ok (J37 q1) (fun r => r.1 * 1000000 + r.2 = h * 18446744073709551616 + l ∧ 0 ≤ r.2 ∧ r.2 < 1000000 ∧ 0 ≤ r.1) := by
    rw [eJ37]
    refine Ok.bv fun z87 e87 => Ok.bv fun z89 e89 => Ok.bv fun z92 e92 => Ok.bv fun z93 e93 => Ok.ck (by omega) (Ok.bv fun q0 eq0 => Ok.bv fun z100 e100 => Ok.bv fun rh2 erh2 => ?_)
    have h87 := wU64m e87
    have h89 := wU64m e89
    have h92 := wU64m e92
    have h93 := wU64m e93
    have hun1b : 0 ≤ un1 ∧ un1 < 4294967296 := by omega
    have h93' : z93 = rh * 4294967296 + un1 := by
      clear e87 e89 e92 e93 eJ37
      rw [hdiv] at h87
      omega
    clear e87 e89 e92 e93 h87 h89 h92 h93
    rw [tdiv_pos (by omega)] at eq0
    have hq0 := (wU64 eq0).2 (by omega)
    have h100 := (wU64 e100).2 (by omega)
    have hrh2 := (wU64 erh2).2 (by omega)
    have hr2b : 0 ≤ rh2 ∧ rh2 < 4096000000 := by omega
    have hq0b : 0 ≤ q0 ∧ q0 < 4294967296 := by omega
    have hdiv2 : z93 = q0 * 4096000000 + rh2 := by omega
    clear eq0 e100 erh2 hq0 h100 hrh2
    refine Ok.bv fun J47 eJ47 => ?_
    have hJ2 : Ok (J47 q0) (fun r => r.1 * 1000000 + r.2 = h * 18446744073709551616 + l ∧ 0 ≤ r.2 ∧ r.2 < 1000000 ∧ 0 ≤ r.1) := by
      rw [eJ47]
      refine Ok.bv fun a1 ea1 => Ok.bv fun a2 ea2 => Ok.bv fun a3 ea3 => Ok.bv fun a4 ea4 => Ok.bv fun a5 ea5 => Ok.bv fun a6 ea6 => Ok.ck (by omega) (Ok.bv fun a7 ea7 => Ok.sm ?_)
      have h1 := (wU64 ea1).2 (by omega)
      have h2 := (wU64 ea2).2 (by omega)
      have h3 := wU64m ea3
      have h4 := wU64m ea4
      have h5 := wU64m ea5
      have h6 := wU64m ea6
      have h6' : a6 = rh2 * 4294967296 := by
        rw [hdiv2] at h3
        clear ea1 ea2 ea3 ea4 ea5 ea6 eJ47 eJ37
        omega
      have h7 := shr44 (by omega) ea7
      have h7' : a7 = rh2 / 4096 := by omega
      clear ea1 ea2 ea3 ea4 ea5 ea6 ea7 h3 h4 h5 h6 h7 eJ47 eJ37
      simp only
      have key : 4096 * (h * 18446744073709551616 + l) = (q1 * 4294967296 + q0) * 4096000000 + rh2 := by omega
      omega
    refine Ok.bv fun B eB => ?_
    subst eB
    refine Ok.lp (fun s => s = (rh2, q0)) (fun _ => 0) rfl (by omega) fun s hI next ih => ?_
    subst hI
    refine Ok.bv fun c1 ec1 => Ok.bv fun c2 ec2 => Ok.bv fun c3 ec3 => Ok.bv fun c4 ec4 => Ok.bv fun c5 ec5 => Ok.bv fun c6 ec6 => Ok.it (fun hc => ?_) (fun _ => hJ2)
    have k2 := (wU64 ec2).2 (by simp only; omega)
    have k4 := (wU64 ec4).1
    rw [ec6, ec1, ec5] at hc
    simp at hc
    omega
  refine Ok.bv fun B eB => ?_
  subst eB
  refine Ok.lp (fun s => s = (q1, rh)) (fun _ => 0) rfl (by omega) fun s hI next ih => ?_
  subst hI
  refine Ok.bv fun c1 ec1 => Ok.bv fun c2 ec2 => Ok.bv fun c3 ec3 => Ok.bv fun c4 ec4 => Ok.bv fun c5 ec5 => Ok.bv fun c6 ec6 => Ok.it (fun hc => ?_) (fun _ => hJ)
  have k2 := (wU64 ec2).2 (by simp only; omega)
  have k4 := (wU64 ec4).1
  rw [ec6, ec1, ec5] at hc
  simp at hc
  omega
/-- A product that is whole. -/
theorem num_scaled_val {x y m : Int} (hx : 0 ≤ x ∧ x ≤ 18446744073709551615) (hy : 0 ≤ y ∧ y ≤ 18446744073709551615) (hm : x * y = m * 1000000) :
    Ok (num_scaled x y 1000000) (fun r => (r.2 = true → r.1 = m) ∧ (m ≤ 18446744073709551615 → r = (m, true))) := by
  have hxy : 0 ≤ x * y := Int.mul_nonneg hx.1 hy.1
  unfold num_scaled
  refine Ok.ck ⟨hx, hy⟩ (Ok.bv fun z ez => Ok.bv fun b eb => Ok.it (fun hb => Ok.sm ⟨fun h => (by cases h), fun h => ?_⟩) (fun e => ?_))
  · rw [eb, ez] at hb
    simp at hb
    omega
  rw [eb, ez] at e
  simp only [decide_eq_false_iff_not] at e
  have h1 : z.1 = x * y / 18446744073709551616 := by rw [ez]
  have h2 : z.2 = x * y % 18446744073709551616 := by rw [ez]
  generalize x * y = w at *
  refine Ok.ob (bits_Div64_M (by omega) (by omega)) fun r er hr => Ok.bv fun J eJ => ?_
  obtain ⟨r1, r2, r3, r4⟩ := hr
  have q0 : r.2 = 0 ∧ r.1 = m := by omega
  refine Ok.bv fun z31 e31 => Ok.bv fun z32 e32 => Ok.it (fun h => ?_) fun _ => ?_
  · have := (wU64 e31).2 (by omega)
    rw [e32] at h
    simp at h
    omega
  rw [eJ]
  refine Ok.bv fun z37 e37 => Ok.bv fun z42 e42 => Ok.bv fun z43 e43 => Ok.bv fun z44 e44 => Ok.sm ?_
  have h42 := (wU64 e42).2 (by omega)
  have h43 : z43 = true := by rw [e43]; simp; omega
  have h44 : z44 = true := by rw [e44, h43]; simp
  rw [h44, q0.2]
  exact ⟨fun _ => rfl, fun _ => rfl⟩
theorem num_Mul_val {x y m : Int} (hx : 0 ≤ x ∧ x ≤ 9223372036854775807) (hy : 0 ≤ y ∧ y ≤ 9223372036854775807) (hm : x * y = m * 1000000) :
    Ok (num_Mul x y) (fun r => (r.2 = true → r.1 = m) ∧ (m ≤ 9223372036854775807 → r = (m, true))) := by
  unfold num_Mul
  refine Ok.ob (num_abs_val (by omega)) fun a ea ha => Ok.ob (num_abs_val (by omega)) fun b eb hb => ?_
  have h1 := ha.2 hx.1
  have h2 := hb.2 hy.1
  subst h1 h2
  refine Ok.ob (num_scaled_val (by omega) (by omega) hm) fun r er hr => Ok.bv fun z ez => Ok.it (fun h => Ok.sm ⟨fun h => (by cases h), fun h' => ?_⟩) (fun h => ?_)
  · rw [hr.2 (by omega)] at ez
    rw [ez] at h
    cases h
  have hr2 : r.2 = true := by rw [ez] at h; simpa using h
  have hr1 := hr.1 hr2
  have hm0 : 0 ≤ m := by have := Int.mul_nonneg hx.1 hy.1; omega
  refine Ok.bv fun z1 e1 => Ok.bv fun z2 e2 => Ok.bv fun z3 e3 => ?_
  have h1 : z1 = false := by rw [e1]; simp; omega
  have h2 : z2 = false := by rw [e2]; simp; omega
  have h3 : z3 = false := by rw [e3, h1, h2]; rfl
  subst h3
  refine Ok.ob (R := fun q : Int × Bool => (q.2 = true → q.1 = m) ∧ (m ≤ 9223372036854775807 → q = (m, true))) ?_ fun q _ hq => Ok.sm hq
  unfold num_signed
  refine Ok.bv fun z ez => Ok.it (fun e => Ok.sm ⟨fun h => (by cases h), fun h => ?_⟩) (fun e => ?_)
  · rw [ez] at e; simp at e; omega
  simp only [Bool.false_eq_true, if_false]
  refine Ok.bv fun a ea => Ok.sm ?_
  rw [ez] at e
  simp at e
  have := (wI64 ea).2 (by omega)
  rw [this, hr1]
  exact ⟨fun _ => rfl, fun _ => rfl⟩
theorem num_Of_eq {c : Int} (h : 0 ≤ c ∧ c ≤ 9223372036854) : num_Of c = some (c * 1000000, true) := by
  have : Ok (num_Of c) (fun r => r = (c * 1000000, true)) := by
    unfold num_Of
    refine Ok.bv fun z1 e1 => Ok.bv fun z2 e2 => Ok.bv fun z3 e3 => Ok.it (fun h3 => ?_) fun _ => Ok.bv fun z4 e4 => Ok.sm ?_
    · rw [e3, e1, e2] at h3
      simp at h3
      omega
    · have := (wI64 e4).2 (by omega)
      rw [this]
  obtain ⟨v, h, rfl⟩ := this
  exact h
/-! ### the value of a polynomial -/
def prG (g : C → Int) : List C → Int
  | [] => 1
  | c :: l => g c * prG g l
theorem prG_append (g : C → Int) : ∀ (a b : List C), prG g (a ++ b) = prG g a * prG g b
  | [], b => by simp [prG]
  | c :: a, b => by simp only [List.cons_append, prG, prG_append g a b, Int.mul_assoc]
theorem prG_perm (g : C → Int) {a b : List C} (h : a.Perm b) : prG g a = prG g b := by
  induction h with
  | nil => rfl
  | cons x _ ih => simp only [prG, ih]
  | swap x y l => simp only [prG]; rw [← Int.mul_assoc, ← Int.mul_assoc, Int.mul_comm (g y)]
  | trans _ _ h1 h2 => exact h1.trans h2
theorem prG_bd {g : C → Int} {l : List C} (h : ∀ c ∈ l, 0 ≤ g c ∧ g c ≤ 15) : 0 ≤ prG g l ∧ prG g l ≤ 15 ^ l.length := by
  induction l with
  | nil => simp [prG]
  | cons c l ih =>
    have h1 := h c (by simp)
    have h2 := ih fun d hd => h d (by simp [hd])
    simp only [prG, List.length_cons, Int.pow_succ]
    refine ⟨Int.mul_nonneg h1.1 h2.1, ?_⟩
    rw [Int.mul_comm (15 ^ l.length)]
    exact Int.mul_le_mul h1.2 h2.2 h2.1 (by omega)
theorem prG_bd4 {g : C → Int} {l : List C} (h : ∀ c ∈ l, 0 ≤ g c ∧ g c ≤ 15) (hl : l.length ≤ 4) : 0 ≤ prG g l ∧ prG g l ≤ 50625 := by
  have h1 := prG_bd h
  have : l.length = 0 ∨ l.length = 1 ∨ l.length = 2 ∨ l.length = 3 ∨ l.length = 4 := by omega
  rcases this with e | e | e | e | e <;> · rw [e] at h1; omega
theorem EV_bd {φ : List C → Int} {B : Int} (hB : 0 ≤ B) : ∀ {l : List T}, (∀ t ∈ l, 0 ≤ t.n * φ t.v ∧ t.n * φ t.v ≤ B) → 0 ≤ EV φ l ∧ EV φ l ≤ l.length * B
  | [], _ => by simp [EV]
  | t :: l, h => by
    have h1 := h t (by simp)
    have h2 := EV_bd hB (l := l) fun u hu => h u (by simp [hu])
    simp only [EV, List.length_cons]
    have : ((l.length + 1 : Nat) : Int) * B = l.length * B + B := by rw [Int.natCast_add, Int.add_mul]; simp
    omega
/-- What may be reckoned. -/
def ValT (g : C → Int) (t : T) : Prop := (0 < t.n ∧ t.n ≤ 1000000) ∧ t.v.length ≤ 4 ∧ ∀ c ∈ t.v, 0 ≤ g c ∧ g c ≤ 15
theorem ValT.bd {g : C → Int} {t : T} (h : ValT g t) : 0 ≤ t.n * prG g t.v ∧ t.n * prG g t.v ≤ 50625000000 := by
  have h1 := prG_bd4 h.2.2 h.2.1
  refine ⟨Int.mul_nonneg (by have := h.1; omega) h1.1, ?_⟩
  exact Int.mul_le_mul (c := 1000000) (d := 50625) h.1.2 h1.2 h1.1 (by omega)
theorem poly_Num_tot {p : List T} {g : C → Int} {get : C → Option Int} (hl : p.length ≤ 32) (hv : ∀ t ∈ p, ValT g t) (hg : ∀ t ∈ p, ∀ c ∈ t.v, get c = some (g c)) :
    Ok (poly_Num p get) (fun r => r = (EV (prG g) p * 1000000, true)) := by
  unfold poly_Num
  refine Ok.bv fun J2 hJ2 => Ok.bv fun B hB => ?_
  subst hB
  refine Ok.lp (fun s : Int × Int => 0 ≤ s.2 ∧ s.2 ≤ p.length ∧ s.1 = EV (prG g) (p.take s.2.toNat) * 1000000) (fun s => (p.length - s.2).toNat) ⟨by simp, by simp, by simp [EV]⟩ (by simp only; omega) ?_
  rintro ⟨s, i⟩ ⟨s0, s1, s2⟩ next ih
  simp only at s0 s1 s2 ⊢
  have hsb := EV_bd (φ := prG g) (B := 50625000000) (by omega) (l := p.take i.toNat) fun t ht => (hv t (List.mem_of_mem_take ht)).bd
  have htl : (p.take i.toNat).length ≤ 32 := by rw [List.length_take]; omega
  refine Ok.bv fun z1 e1 => Ok.it (fun h1 => ?_) fun h1 => ?_
  · have hlt : i < p.length := by rw [e1] at h1; simpa using h1
    refine Ok.ck ⟨s0, hlt⟩ ?_
    refine Ok.bv fun t et => ?_
    have htm : t ∈ p := by rw [et]; exact gel_mem ⟨s0, hlt⟩
    have ht := hv t htm
    have hbd := ht.bd
    have htk := take_gel s0 hlt
    rw [← et] at htk
    rw [num_Of_eq (by have := ht.1; omega)]
    refine Ok.os fun y ey => ?_
    subst ey
    simp only
    refine Ok.bv fun J16 hJ16 => ?_
    have hJ : Ok (J16 (t.n * prG g t.v * 1000000, true)) (fun r => r = (EV (prG g) p * 1000000, true)) := by
      rw [hJ16]
      refine Ok.bv fun J18 hJ18 => ?_
      simp only [if_true]
      rw [num_Add_eq (by omega) (by omega) (by omega)]
      refine Ok.os fun y ey => ?_
      subst ey
      rw [hJ18]
      refine Ok.bv fun z2 e2 => ?_
      simp only [Bool.not_true] at e2
      rw [e2]
      simp only [Bool.false_eq_true, if_false]
      refine Ok.bv fun z3 e3 => ?_
      have e3' : z3 = i + 1 := (wI64 e3).2 (by omega)
      refine ih _ ⟨by simp only; omega, by simp only; omega, ?_⟩ (by simp only; omega)
      simp only [e3']
      rw [htk, EV_append, s2]
      simp only [EV]
      omega
    clear hJ16
    refine Ok.bv fun B hB => ?_
    subst hB
    refine Ok.lp (fun u : Int × Bool × Int => 0 ≤ u.2.2 ∧ u.2.2 ≤ t.v.length ∧ u.2.1 = true ∧ u.1 = t.n * prG g (t.v.take u.2.2.toNat) * 1000000) (fun u => (t.v.length - u.2.2).toNat) ⟨by simp, by simp, rfl, by simp [prG]⟩ (by have := ht.2.1; simp only; omega) ?_
    rintro ⟨x, ok, k⟩ ⟨u0, u1, u2, u3⟩ next2 ih2
    simp only at u0 u1 u2 u3 ⊢
    subst u2
    have hvl := ht.2.1
    refine Ok.bv fun z2 e2 => Ok.it (fun h2 => ?_) fun h2 => ?_
    · have hlt2 : k < t.v.length := by rw [e2] at h2; simpa using h2
      refine Ok.ck ⟨u0, hlt2⟩ ?_
      refine Ok.bv fun c ec => ?_
      have hcm : c ∈ t.v := by rw [ec]; exact gel_mem ⟨u0, hlt2⟩
      have hc := ht.2.2 c hcm
      simp only [if_true]
      rw [hg t htm c hcm]
      refine Ok.os fun y ey => ?_
      subst ey
      rw [num_Of_eq (by omega)]
      refine Ok.os fun y ey => ?_
      subst ey
      have htk2 := take_gel u0 hlt2
      rw [← ec] at htk2
      have hpk := prG_bd4 (g := g) (l := t.v.take k.toNat) (fun d hd => ht.2.2 d (List.mem_of_mem_take hd)) (by rw [List.length_take]; omega)
      have hpk2 := prG_bd4 (g := g) (l := t.v.take (k + 1).toNat) (fun d hd => ht.2.2 d (List.mem_of_mem_take hd)) (by rw [List.length_take]; omega)
      have hx : 0 ≤ t.n * prG g (t.v.take k.toNat) ∧ t.n * prG g (t.v.take k.toNat) ≤ 1000000 * 50625 := ⟨Int.mul_nonneg (by have := ht.1; omega) hpk.1, Int.mul_le_mul ht.1.2 hpk.2 hpk.1 (by omega)⟩
      have hx2 : 0 ≤ t.n * prG g (t.v.take (k + 1).toNat) ∧ t.n * prG g (t.v.take (k + 1).toNat) ≤ 1000000 * 50625 := ⟨Int.mul_nonneg (by have := ht.1; omega) hpk2.1, Int.mul_le_mul ht.1.2 hpk2.2 hpk2.1 (by omega)⟩
      have hprod : x * (g c * 1000000) = t.n * prG g (t.v.take (k + 1).toNat) * 1000000 * 1000000 := by
        rw [htk2, prG_append, u3]
        simp only [prG, Int.mul_one]
        have e1 : t.n * (prG g (t.v.take k.toNat) * g c) = t.n * prG g (t.v.take k.toNat) * g c := by rw [Int.mul_assoc]
        rw [e1]
        generalize t.n * prG g (t.v.take k.toNat) = A
        rw [← Int.mul_assoc, Int.mul_assoc A, Int.mul_comm 1000000 (g c), ← Int.mul_assoc]
      refine Ok.ob (num_Mul_val (by omega) (by simp only; omega) hprod) fun r _ hr => ?_
      have hr := hr.2 (by omega)
      subst hr
      refine Ok.bv fun z3 e3 => ?_
      simp only [Bool.not_true] at e3
      rw [e3]
      simp only [Bool.false_eq_true, if_false]
      refine Ok.bv fun z4 e4 => ?_
      have e4' : z4 = k + 1 := (wI64 e4).2 (by omega)
      refine ih2 _ ⟨by simp only; omega, by simp only; omega, rfl, by simp only [e4']⟩ (by simp only; omega)
    · have hge : ¬ k < t.v.length := by rw [e2] at h2; simpa using h2
      rw [List.take_of_length_le (by omega)] at u3
      rw [u3]
      exact hJ
  · have hge : ¬ i < p.length := by rw [e1] at h1; simpa using h1
    rw [List.take_of_length_le (by omega)] at s2
    rw [hJ2]
    refine Ok.sm ?_
    rw [s2]
theorem poly_Num_eq {p : List T} {g : C → Int} {get : C → Option Int} (hl : p.length ≤ 32) (hv : ∀ t ∈ p, ValT g t) (hg : ∀ t ∈ p, ∀ c ∈ t.v, get c = some (g c)) : poly_Num p get = some (EV (prG g) p * 1000000, true) := by
  obtain ⟨v, h, rfl⟩ := poly_Num_tot hl hv hg
  exact h
end Go.Sp
