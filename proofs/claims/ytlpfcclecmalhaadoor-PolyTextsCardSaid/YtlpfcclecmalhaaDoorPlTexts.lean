/- The law PolyTexts, plain. -/
import Derived.Test.YtlpfcclecmalhaaDoorPlUnits
import Derived.Test.YtlpfcclecmalhaaDoorSpG
set_option linter.unusedSimpArgs false
set_option linter.unusedVariables false
set_option linter.unusedSectionVars false
namespace Go.Sp
open Go.Stp Go.ValP
theorem C_eqB (a b : C) : (decide (a.s = b.s) && (decide (a.c = b.c) && decide (a.r = b.r))) = decide (a = b) := by
  rw [Bool.eq_iff_iff]
  simp only [Bool.and_eq_true, decide_eq_true_eq]
  exact ⟨fun h => C_ext h.1 h.2.1 h.2.2, fun h => by rw [h]; exact ⟨rfl, rfl, rfl⟩⟩
theorem T_ext {a b : T} (h1 : a.n = b.n) (h2 : a.v = b.v) : a = b := by
  cases a; cases b; simp_all
theorem snoc_inj {α : Type} {a b : List α} {x y : α} : a ++ [x] = b ++ [y] ↔ a = b ∧ x = y := by
  constructor
  · intro h
    obtain ⟨h1, h2⟩ := List.append_inj' h rfl
    exact ⟨h1, by simpa using h2⟩
  · rintro ⟨rfl, rfl⟩; rfl
theorem PolyTexts_tot {a b : List Int} {c : C} (hla : (a.length : Int) ≤ 9223372036854775807) (hlb : (b.length : Int) ≤ 9223372036854775807) (hba : ∀ x ∈ a, 0 ≤ x ∧ x ≤ 255) (hbb : ∀ x ∈ b, 0 ≤ x ∧ x ≤ 255) : Ok (reckonerlaw15_PolyTexts a b c) (fun r => r = true) := by
  unfold reckonerlaw15_PolyTexts
  refine Ok.ob fit15_tot fun y _ hy => Ok.bv fun z1 e1 => Ok.it (fun h => ?_) fun _ => ?_
  · rw [e1, hy] at h
    cases h
  refine Ok.ob (Make_tot hla hba) fun x _ hx => Ok.ob (Make_tot hlb hbb) fun y _ hy => ?_
  refine Ok.bv fun z28 e28 => Ok.bv fun z31 e31 => Ok.bv fun z32 e32 => Ok.bv fun z36 e36 => Ok.bv fun z37 e37 => Ok.bv fun z41 e41 => Ok.bv fun z42 e42 => Ok.bv fun z46 e46 => Ok.bv fun z47 e47 => Ok.bv fun z51 e51 => Ok.bv fun z52 e52 => Ok.bv fun z56 e56 => Ok.bv fun z57 e57 => Ok.bv fun z61 e61 => Ok.bv fun z62 e62 => Ok.it (fun _ => Ok.sm rfl) fun hn => ?_
  have hxo : x.2 = true ∧ y.2 = true := by
    rw [e62, e57, e52, e47, e42, e37, e32, e31, e28] at hn
    simp only [Bool.or_eq_false_iff, Bool.not_eq_false'] at hn
    exact hn.1.1.1.1.1.1
  clear hn e62 e61 e57 e56 e52 e51 e47 e46 e42 e41 e37 e36 e32 e31 e28
  have mx := hx.2 hxo.1
  have my := hy.2 hxo.2
  obtain ⟨x, xo⟩ := x
  obtain ⟨y, yo⟩ := y
  simp only at mx my ⊢
  clear hx hy hxo
  have lx := mx.len
  have ly := my.len
  refine Ok.bv fun z67 e67 => Ok.bv fun J hJ => ?_
  have hJ' : Ok (J (decide (x = y))) (fun r => r = true) := by
    rw [hJ, Var_eq]
    refine Ok.os fun v ev => ?_
    subst ev
    rw [poly_Print_eq (by omega) mx.told, poly_Print_eq (by omega) my.told]
    refine Ok.os fun p ep => Ok.os fun q eq => ?_
    have hpq : decide (p = q) = decide (x = y) := by
      rw [Bool.eq_iff_iff]
      simp only [decide_eq_true_eq]
      rw [ep, eq]
      exact ⟨fun h => polyS_inj mx.told my.told h, fun h => by rw [h]⟩
    refine Ok.bv fun a1 b1 => Ok.bv fun a2 b2 => Ok.bv fun a3 b3 => Ok.bv fun a4 b4 => Ok.ck (fun _ => by simp) (Ok.bv fun a5 b5 => Ok.bv fun a6 b6 => Ok.bv fun a7 b7 => Ok.ck (fun _ => by simp) (Ok.bv fun a8 b8 => Ok.bv fun a9 b9 => Ok.bv fun a10 b10 => Ok.ck (fun _ => by simp) (Ok.bv fun a11 b11 => ?_)))
    have g11 : a11 = ⟨1, [c]⟩ := by rw [b11]; rfl
    have g8 : a8 = ⟨1, [c]⟩ := by rw [b8]; rfl
    have g5 : a5 = ⟨1, [c]⟩ := by rw [b5]; rfl
    refine Ok.ck (fun _ => by rw [g11]; simp) (Ok.bv fun a12 b12 => Ok.bv fun a13 b13 => Ok.bv fun a14 b14 => Ok.sm ?_)
    have g12 : a12 = c := by rw [b12, g11]; rfl
    rw [b14, b13, C_eqB, g12, b10, b9, g8, b7, b6, g5, b4, b3, b2, b1, hpq]
    simp
  clear hJ
  refine Ok.bv fun z72 e72 => Ok.bv fun B hB => ?_
  subst hB
  refine Ok.lp (fun s : Bool × Int => 0 ≤ s.2 ∧ s.2 ≤ z72 ∧ s.1 = decide (x.length = y.length ∧ x.take s.2.toNat = y.take s.2.toNat)) (fun s => (z72 - s.2).toNat) ⟨by simp, by simp only; omega, ?_⟩ (by simp only; omega) ?_
  · simp only [Int.toNat_zero, List.take_zero, and_true, e67]
    rw [Bool.eq_iff_iff]
    simp only [decide_eq_true_eq]
    omega
  rintro ⟨s, i⟩ ⟨s0, s1, s2⟩ next ih
  simp only at s0 s1 s2 ⊢
  refine Ok.bv fun z74 e74 => Ok.it (fun h => ?_) fun h => ?_
  · have hlt : i < z72 := by rw [e74] at h; simpa using h
    have hix : i < x.length := by omega
    have hiy : i < y.length := by omega
    refine Ok.ck (fun _ => ⟨s0, hix⟩) (Ok.bv fun t et => Ok.ck (fun _ => ⟨s0, hiy⟩) (Ok.bv fun u eu => Ok.bv fun z88 e88 => Ok.bv fun z89 e89 => Ok.ck (fun _ => ⟨s0, hix⟩) (Ok.bv fun t' et' => Ok.ck (fun _ => ⟨s0, hiy⟩) (Ok.bv fun u' eu' => Ok.bv fun z103 e103 => Ok.bv fun z104 e104 => Ok.bv fun B hB => ?_))))
    subst hB
    have tt : t' = t := by rw [et', et]
    have uu : u' = u := by rw [eu', eu]
    subst tt uu
    have tx := take_gel s0 hix
    have ty := take_gel s0 hiy
    rw [← et] at tx
    rw [← eu] at ty
    have htl : t'.v.length ≤ 4 := (mx.told t' (by rw [et]; exact gel_mem ⟨s0, hix⟩)).l
    have h104 : z104 = true ↔ (x.length = y.length ∧ x.take i.toNat = y.take i.toNat) ∧ t'.n = u'.n ∧ t'.v.length = u'.v.length := by
      rw [e104, e103, e89, e88, s2]
      simp only [Bool.and_eq_true, decide_eq_true_eq]
      constructor
      · rintro ⟨⟨h1, h2⟩, h3⟩; exact ⟨h1, h2, by omega⟩
      · rintro ⟨h1, h2, h3⟩; exact ⟨⟨h1, h2⟩, by omega⟩
    refine Ok.lp (fun w : Bool × Int => 0 ≤ w.2 ∧ (w.2 = 0 ∨ w.2 ≤ t'.v.length) ∧ (w.1 = true ↔ z104 = true ∧ t'.v.take w.2.toNat = u'.v.take w.2.toNat)) (fun w => (t'.v.length - w.2).toNat) ⟨by simp, by simp, by simp⟩ (by simp only; omega) ?_
    rintro ⟨w, k⟩ ⟨w0, w1, w2⟩ next2 ih2
    simp only at w0 w1 w2 ⊢
    refine Ok.ck (fun _ => ⟨s0, hix⟩) (Ok.bv fun t2 et2 => Ok.bv fun z114 e114 => Ok.bv fun z115 e115 => Ok.it (fun h => ?_) fun h => ?_)
    · have : t2 = t' := by rw [et2, et]
      subst this
      rw [e115, e114] at h
      simp only [Bool.and_eq_true, decide_eq_true_eq] at h
      obtain ⟨hw, hk⟩ := h
      have hul : t2.v.length = u'.v.length := (h104.1 (w2.1 hw).1).2.2
      refine Ok.ck ⟨s0, hix⟩ (Ok.bv fun t3 et3 => ?_)
      have : t3 = t2 := by rw [et3, et2]
      subst this
      refine Ok.ck ⟨w0, hk⟩ (Ok.bv fun c1 ec1 => Ok.ck ⟨s0, hiy⟩ (Ok.bv fun u3 eu3 => ?_))
      have : u3 = u' := by rw [eu3, eu]
      subst this
      have hk' : k < u3.v.length := by omega
      refine Ok.ck ⟨w0, hk'⟩ (Ok.bv fun c2 ec2 => Ok.bv fun z134 e134 => Ok.bv fun z117 e117 => ?_)
      have e117' : z117 = k + 1 := (wI64 e117).2 (by omega)
      refine ih2 _ ⟨by simp only; omega, by simp only; omega, ?_⟩ (by simp only; omega)
      simp only [e117', e134, C_eqB, take_gel w0 hk, take_gel w0 hk', decide_eq_true_eq, snoc_inj, ← ec1, ← ec2]
      exact ⟨fun h => ⟨(w2.1 hw).1, (w2.1 hw).2, h⟩, fun h => h.2.2⟩
    · have : t2 = t' := by rw [et2, et]
      subst this
      rw [e115, e114] at h
      have hcase : w = false ∨ t2.v.length ≤ k := by
        cases w with
        | false => exact .inl rfl
        | true => right; simp at h; omega
      refine Ok.bv fun z135 e135 => ?_
      have e135' : z135 = i + 1 := (wI64 e135).2 (by omega)
      refine ih _ ⟨by simp only; omega, by simp only; omega, ?_⟩ (by simp only; omega)
      simp only [e135', tx, ty, snoc_inj]
      rw [Bool.eq_iff_iff]
      simp only [decide_eq_true_eq]
      rcases hcase with hw | hk
      · rw [hw] at w2
        simp only [Bool.false_eq_true, false_iff] at w2
        simp only [hw, Bool.false_eq_true, false_iff]
        rintro ⟨h1, h2, rfl⟩
        exact w2 ⟨h104.2 ⟨⟨h1, h2⟩, rfl, rfl⟩, rfl⟩
      · constructor
        · intro hw
          obtain ⟨h1, h2⟩ := w2.1 hw
          obtain ⟨h3, h4, h5⟩ := h104.1 h1
          rw [List.take_of_length_le (by omega), List.take_of_length_le (by omega)] at h2
          exact ⟨h3.1, h3.2, T_ext h4 h2⟩
        · rintro ⟨h1, h2, rfl⟩
          exact w2.2 ⟨h104.2 ⟨⟨h1, h2⟩, rfl, rfl⟩, rfl⟩
  · have hge : ¬ i < z72 := by rw [e74] at h; simpa using h
    have : s = decide (x = y) := by
      rw [s2, Bool.eq_iff_iff]
      simp only [decide_eq_true_eq]
      constructor
      · rintro ⟨h1, h2⟩
        rwa [List.take_of_length_le (by omega), List.take_of_length_le (by omega)] at h2
      · rintro rfl; exact ⟨rfl, rfl⟩
    rw [this]
    exact hJ'
end Go.Sp
