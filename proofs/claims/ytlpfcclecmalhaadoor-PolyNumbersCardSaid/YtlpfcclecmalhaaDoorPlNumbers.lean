/- The law PolyNumbers, plain. -/
import Derived.Test.YtlpfcclecmalhaaDoorPlAlg
import Derived.Test.YtlpfcclecmalhaaDoorPlDiv
import Derived.Test.YtlpfcclecmalhaaDoorSpK
import Derived.Laws.BitsLemmas
set_option linter.unusedSimpArgs false
set_option linter.unusedVariables false
set_option linter.unusedSectionVars false
namespace Go.Sp
open Go.Stp Go.ValP
theorem i64_and3' (n : Int) : bits .and .i64 n 3 = n % 4 := by
  have h127 : (BitVec.ofInt 64 3).toNat = 2 ^ 2 - 1 := by decide
  have key : (BitVec.ofInt 64 n &&& BitVec.ofInt 64 3).toNat = (n % ((2 ^ 64 : Nat) : Int)).toNat % 2 ^ 2 := by
    rw [BitVec.toNat_and, BitVec.toNat_ofInt, h127, Nat.and_two_pow_sub_one_eq_mod]
  show IntKind.i64.wrap ((BitVec.ofInt 64 n &&& BitVec.ofInt 64 3).toNat : Nat) = n % 4
  rw [key, IntKind.wrap_i64]
  omega
theorem i64_and15' (n : Int) : bits .and .i64 n 15 = n % 16 := by
  have h127 : (BitVec.ofInt 64 15).toNat = 2 ^ 4 - 1 := by decide
  have key : (BitVec.ofInt 64 n &&& BitVec.ofInt 64 15).toNat = (n % ((2 ^ 64 : Nat) : Int)).toNat % 2 ^ 4 := by
    rw [BitVec.toNat_and, BitVec.toNat_ofInt, h127, Nat.and_two_pow_sub_one_eq_mod]
  show IntKind.i64.wrap ((BitVec.ofInt 64 n &&& BitVec.ofInt 64 15).toNat : Nat) = n % 16
  rw [key, IntKind.wrap_i64]
  omega
/-- What a cell is in this law. -/
def atN (a : A4) (c : C) : Int := bits .and .i64 (gel [a.a, a.b, a.c, a.d] (bits .and .i64 c.c 3)) 15
theorem atN_bd {a : A4} {c : C} : 0 ≤ atN a c ∧ atN a c ≤ 15 := by unfold atN; rw [i64_and15']; omega
theorem Numbers1_eq {a : A4} {c : C} : reckonerlaw15_PolyNumbers_1 c a = some (atN a c) := by
  have h3 := i64_and3' c.c
  unfold reckonerlaw15_PolyNumbers_1 atN bindv chk
  dsimp only
  rw [if_pos (by omega)]
theorem Numbers2_eq {a : A4} {c : C} : reckonerlaw15_PolyNumbers_2 c a = some (decide (0 < atN a c)) := by
  have h3 := i64_and3' c.c
  unfold reckonerlaw15_PolyNumbers_2 atN bindv chk
  dsimp only
  rw [if_pos (by omega)]
theorem poly_Holds_tot {p : List T} {h : C → Bool} {there : C → Option Bool} (hl : p.length ≤ 32) (hv : ∀ t ∈ p, t.v.length ≤ 4) (hh : ∀ c, there c = some (h c)) : Ok (poly_Holds p there) (fun r => r = true ↔ ∃ t ∈ p, ∀ c ∈ t.v, h c = true) := by
  unfold poly_Holds
  refine Ok.bv fun J3 hJ3 => Ok.bv fun B hB => ?_
  subst hB
  refine Ok.lp (fun s : Int => 0 ≤ s ∧ s ≤ p.length ∧ ∀ t ∈ p.take s.toNat, ¬ ∀ c ∈ t.v, h c = true) (fun s => (p.length - s).toNat) ⟨by omega, by omega, by simp⟩ (by omega) ?_
  rintro s ⟨s0, s1, s2⟩ next ih
  refine Ok.bv fun z1 e1 => Ok.it (fun h1 => ?_) fun h1 => ?_
  · have hlt : s < p.length := by rw [e1] at h1; simpa using h1
    refine Ok.ck ⟨s0, hlt⟩ (Ok.bv fun t et => Ok.bv fun J16 hJ16 => Ok.bv fun B hB => ?_)
    subst hB
    have htm : t ∈ p := by rw [et]; exact gel_mem ⟨s0, hlt⟩
    have htl := hv t htm
    have htk := take_gel s0 hlt
    rw [← et] at htk
    refine Ok.lp (fun u : Int => 0 ≤ u ∧ u ≤ t.v.length ∧ ∀ c ∈ t.v.take u.toNat, h c = true) (fun u => (t.v.length - u).toNat) ⟨by omega, by omega, by simp⟩ (by omega) ?_
    rintro u ⟨u0, u1, u2⟩ next2 ih2
    refine Ok.bv fun z2 e2 => Ok.it (fun h2 => ?_) fun h2 => ?_
    · have hlt2 : u < t.v.length := by rw [e2] at h2; simpa using h2
      refine Ok.ck ⟨u0, hlt2⟩ (Ok.bv fun c ec => ?_)
      have hcm : c ∈ t.v := by rw [ec]; exact gel_mem ⟨u0, hlt2⟩
      have htk2 := take_gel u0 hlt2
      rw [← ec] at htk2
      rw [hh c]
      refine Ok.os fun y ey => Ok.bv fun z3 e3 => Ok.it (fun h3 => ?_) fun h3 => ?_
      · refine Ok.bv fun z4 e4 => ?_
        have e4' : z4 = s + 1 := (wI64 e4).2 (by omega)
        refine ih _ ⟨by omega, by omega, fun x hx => ?_⟩ (by omega)
        rw [e4', htk] at hx
        rcases List.mem_append.1 hx with hx | hx
        · exact s2 x hx
        · rw [List.mem_singleton.1 hx]
          intro hall
          have := hall c hcm
          rw [e3, ey, this] at h3
          cases h3
      · refine Ok.bv fun z4 e4 => ?_
        have e4' : z4 = u + 1 := (wI64 e4).2 (by omega)
        refine ih2 _ ⟨by omega, by omega, fun x hx => ?_⟩ (by omega)
        rw [e4', htk2] at hx
        rcases List.mem_append.1 hx with hx | hx
        · exact u2 x hx
        · rw [List.mem_singleton.1 hx]
          rw [e3, ey] at h3
          simpa using h3
    · have hge : ¬ u < t.v.length := by rw [e2] at h2; simpa using h2
      rw [List.take_of_length_le (by omega)] at u2
      rw [hJ16]
      exact Ok.sm ⟨fun _ => ⟨t, htm, u2⟩, fun _ => rfl⟩
  · have hge : ¬ s < p.length := by rw [e1] at h1; simpa using h1
    rw [List.take_of_length_le (by omega)] at s2
    rw [hJ3]
    refine Ok.sm ⟨fun h => (by cases h), ?_⟩
    rintro ⟨t, ht, h⟩
    exact absurd h (s2 t ht)
theorem prG_pos {g : C → Int} (hg : ∀ c, 0 ≤ g c) : ∀ {l : List C}, 0 ≤ prG g l ∧ (0 < prG g l ↔ ∀ c ∈ l, 0 < g c)
  | [] => by simp [prG]
  | c :: l => by
    have ih := prG_pos hg (l := l)
    have hc := hg c
    simp only [prG, List.mem_cons]
    refine ⟨Int.mul_nonneg hc ih.1, fun h => ?_, fun h => Int.mul_pos (h c (.inl rfl)) (ih.2.2 fun d hd => h d (.inr hd))⟩
    by_cases h1 : g c = 0
    · rw [h1, Int.zero_mul] at h; omega
    · by_cases h2 : prG g l = 0
      · rw [h2, Int.mul_zero] at h; omega
      · intro d hd
        rcases hd with rfl | hd
        · omega
        · exact ih.2.1 (by omega) d hd
theorem EV_pos {g : C → Int} (hg : ∀ c, 0 ≤ g c) : ∀ {p : List T}, (∀ t ∈ p, 0 < t.n) → 0 ≤ EV (prG g) p ∧ (0 < EV (prG g) p ↔ ∃ t ∈ p, ∀ c ∈ t.v, 0 < g c)
  | [], _ => by simp [EV]
  | t :: p, h => by
    have ih := EV_pos hg (p := p) fun u hu => h u (by simp [hu])
    have hp := prG_pos hg (l := t.v)
    have ht := h t (by simp)
    have hm : 0 ≤ t.n * prG g t.v := Int.mul_nonneg (by omega) hp.1
    simp only [EV, List.mem_cons]
    refine ⟨by omega, fun hh => ?_, ?_⟩
    · by_cases h1 : 0 < prG g t.v
      · exact ⟨t, .inl rfl, hp.2.1 h1⟩
      · have : prG g t.v = 0 := by omega
        rw [this, Int.mul_zero] at hh
        obtain ⟨u, hu, hc⟩ := ih.2.1 (by omega)
        exact ⟨u, .inr hu, hc⟩
    · rintro ⟨u, rfl | hu, hc⟩
      · have := Int.mul_pos ht (hp.2.2 hc)
        omega
      · have := ih.2.2 ⟨u, hu, hc⟩
        omega
theorem EV_prods_prG (g : C → Int) (a b : List T) : EV (prG g) (prods a b) = EV (prG g) a * EV (prG g) b := by
  rw [EV_prods]
  have : (fun v => EV (fun w => prG g (srtC (v ++ w))) b) = fun v => EV (prG g) b * prG g v + 0 := by
    funext v
    have h2 : (fun w => prG g (srtC (v ++ w))) = fun w => prG g v * prG g w + 0 := by
      funext w
      rw [prG_perm g (srtC_perm _), prG_append, Int.add_zero]
    rw [h2, EV_lin (prG g) (fun _ => 0) (prG g v) b, EV_zero, Int.mul_comm]
  rw [this, EV_lin (prG g) (fun _ => 0) _ a, EV_zero, Int.add_zero, Int.mul_comm]
theorem PolyNumbers_tot {a b : List Int} {at4 : A4} (hla : (a.length : Int) ≤ 9223372036854775807) (hlb : (b.length : Int) ≤ 9223372036854775807) (hba : ∀ x ∈ a, 0 ≤ x ∧ x ≤ 255) (hbb : ∀ x ∈ b, 0 ≤ x ∧ x ≤ 255) : Ok (reckonerlaw15_PolyNumbers a b at4) (fun r => r = true) := by
  unfold reckonerlaw15_PolyNumbers
  refine Ok.ob fit15_tot fun y _ hy => Ok.bv fun z1 e1 => Ok.it (fun h => ?_) fun _ => ?_
  · rw [e1, hy] at h
    cases h
  refine Ok.ob (Make_tot hla hba) fun x _ hx => Ok.ob (Make_tot hlb hbb) fun y _ hy => ?_
  refine Ok.bv fun z40 e40 => Ok.bv fun z43 e43 => Ok.bv fun z44 e44 => Ok.it (fun _ => Ok.sm rfl) fun hn => ?_
  have ho : x.2 = true ∧ y.2 = true := by
    rw [e44, e43, e40] at hn
    simp only [Bool.or_eq_false_iff, Bool.not_eq_false'] at hn
    exact hn
  clear hn e40 e43 e44
  have mx := hx.2 ho.1
  have my := hy.2 ho.2
  clear hx hy ho
  obtain ⟨x, xo⟩ := x
  obtain ⟨y, yo⟩ := y
  simp only at mx my ⊢
  have nx : MkP 32 x := mx.mono (by omega)
  have ny : MkP 32 y := my.mono (by omega)
  have hnum : ∀ {p : List T}, MkP 32 p → poly_Num p (fun c => reckonerlaw15_PolyNumbers_1 c at4) = some (EV (prG (atN at4)) p * 1000000, true) := fun hp =>
    poly_Num_eq hp.len (fun t ht => ⟨(hp.told t ht).n, (hp.told t ht).l, fun c _ => atN_bd⟩) fun t _ c _ => Numbers1_eq
  have hbd : ∀ {p : List T}, MkP 14 p → 0 ≤ EV (prG (atN at4)) p ∧ EV (prG (atN at4)) p ≤ 708750000000 := fun {p} hp => by
    have := EV_bd (φ := prG (atN at4)) (B := 50625000000) (by omega) (l := p) fun t ht => ValT.bd ⟨(hp.told t ht).n, (hp.told t ht).l, fun c _ => atN_bd⟩
    have := hp.len
    omega
  have bx := hbd mx
  have bY := hbd my
  refine Ok.ob (MkP.add' (ps := [x, y]) (by simp [nx, ny]) (by simp)) fun s _ hs => Ok.ob (mx.mulN my (by omega) (by omega) (by omega)) fun m _ hm => ?_
  rw [hnum nx, hnum ny]
  refine Ok.os fun vx ex => Ok.os fun vy ey => ?_
  subst ex ey
  simp only
  refine Ok.bv fun z72 e72 => Ok.bv fun z75 e75 => Ok.bv fun z76 e76 => Ok.it (fun h => ?_) fun _ => ?_
  · rw [e76, e75, e72] at h
    cases h
  refine Ok.bv fun J31 hJ31 => ?_
  have h31 : Ok (J31 ()) (fun r => r = true) := by
    rw [hJ31]
    refine Ok.bv fun J33 hJ33 => ?_
    have h33 : Ok (J33 ()) (fun r => r = true) := by
      rw [hJ33]
      refine Ok.ob (poly_Holds_tot (h := fun c => decide (0 < atN at4 c)) nx.len (fun t ht => (nx.told t ht).l) fun c => Numbers2_eq) fun r _ hr => Ok.bv fun z120 e120 => Ok.bv fun z121 e121 => Ok.sm ?_
      have hp := (EV_pos (g := atN at4) (fun c => atN_bd.1) (p := x) fun t ht => (nx.told t ht).n.1).2
      have : r = z120 := by
        rw [Bool.eq_iff_iff, hr, e120]
        simp only [decide_eq_true_eq]
        rw [← hp]
        omega
      rw [e121, this]
      simp
    refine Ok.it (fun h => ?_) fun _ => h33
    have hprod : EV (prG (atN at4)) x * 1000000 * (EV (prG (atN at4)) y * 1000000) = EV (prG (atN at4)) m.1 * 1000000 * 1000000 := by
      rw [(hm.1.ok h).2.2.1, EV_prods_prG]
      generalize EV (prG (atN at4)) x = A
      generalize EV (prG (atN at4)) y = B
      rw [← Int.mul_assoc, Int.mul_assoc A, Int.mul_comm 1000000 B, ← Int.mul_assoc]
    refine Ok.ob (num_Mul_val (by omega) (by omega) hprod) fun w _ hw => ?_
    rw [hnum (hm.2 h)]
    refine Ok.os fun v ev => ?_
    subst ev
    simp only
    refine Ok.bv fun z109 e109 => Ok.bv fun z113 e113 => Ok.bv fun z114 e114 => Ok.it (fun h => ?_) fun _ => h33
    rw [e114, e113, e109] at h
    simp only [Bool.true_and, Bool.and_eq_true, Bool.not_eq_true', decide_eq_false_iff_not] at h
    exact absurd (hw.1 h.1).symm h.2
  refine Ok.it (fun h => ?_) fun _ => h31
  rw [hnum (hs.2 h)]
  refine Ok.os fun v ev => ?_
  subst ev
  simp only
  have hsum := (hs.1.ok h).2.2.1 (prG (atN at4))
  simp only [List.flatten_cons, List.flatten_nil, List.append_nil, EV_append] at hsum
  refine Ok.bv fun z85 e85 => Ok.bv fun z90 e90 => Ok.bv fun z91 e91 => Ok.bv fun z92 e92 => Ok.it (fun h => ?_) fun _ => h31
  have e90' := (wI64 e90).2 (by omega)
  rw [e92, e91, e85] at h
  simp only [Bool.not_true, Bool.false_or, Bool.not_eq_true', decide_eq_false_iff_not] at h
  omega
end Go.Sp
