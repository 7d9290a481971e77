/- Polynomials: what the program's functions compute: order, sums, products. -/
import Derived.Test.YtlpfcclecmalhaaDoorSpD
import Derived.Test.YtlpfcclecmalhaaDoorPlPol
import Derived.Test.YtlpfcclecmalhaaDoorPlInsT
import Derived.Test.YtlpfcclecmalhaaDoorPlInsC
set_option linter.unusedSimpArgs false
set_option linter.unusedVariables false
set_option linter.unusedSectionVars false
namespace Go.Sp
open Go.Stp Go.ValP
theorem addr_Less_tot {a b : C} : Ok (addr_Less a b) (fun r => r = ltC a b) := by
  unfold addr_Less ltC
  refine Ok.bv fun z1 e1 => Ok.it (fun h1 => ?_) fun h1 => ?_
  · refine Ok.bv fun z2 e2 => Ok.sm ?_
    have : ¬ a.s = b.s := by rw [e1] at h1; simpa using h1
    rw [if_pos this, e2]
  · have : a.s = b.s := by rw [e1] at h1; simpa using h1
    rw [if_neg (fun h => h this)]
    refine Ok.bv fun z3 e3 => Ok.it (fun h3 => ?_) fun h3 => ?_
    · refine Ok.bv fun z4 e4 => Ok.sm ?_
      have : ¬ a.r = b.r := by rw [e3] at h3; simpa using h3
      rw [if_pos this, e4]
    · refine Ok.bv fun z4 e4 => Ok.sm ?_
      have : a.r = b.r := by rw [e3] at h3; simpa using h3
      rw [if_neg (fun h => h this), e4]
theorem addr_Less_eq (a b : C) : addr_Less a b = some (ltC a b) := by
  obtain ⟨v, h, rfl⟩ := addr_Less_tot (a := a) (b := b)
  exact h
theorem drop_gel {α : Type} [Inhabited α] {l : List α} {i : Int} (h0 : 0 ≤ i) (h1 : i < (l.length : Int)) : l.drop i.toNat = gel l i :: l.drop (i + 1).toNat := by
  have e : (i + 1).toNat = i.toNat + 1 := by omega
  have hlt : i.toNat < l.length := by omega
  rw [e, List.drop_eq_getElem_cons hlt]
  congr 1
  have := gel_some (l := l) (i := i) ⟨h0, h1⟩
  rw [List.getElem?_eq_getElem hlt] at this
  exact Option.some.inj this
theorem take_gel {α : Type} [Inhabited α] {l : List α} {i : Int} (h0 : 0 ≤ i) (h1 : i < (l.length : Int)) : l.take (i + 1).toNat = l.take i.toNat ++ [gel l i] := by
  have e : (i + 1).toNat = i.toNat + 1 := by omega
  rw [e, List.take_add_one, gel_some ⟨h0, h1⟩]
  rfl
theorem poly_less_tot {a b : List C} (ha : a.length ≤ 1000) (hb : b.length ≤ 1000) : Ok (poly_less a b) (fun r => r = lessL a b) := by
  unfold poly_less lessL
  refine Ok.bv fun z1 e1 => Ok.it (fun h1 => ?_) fun h1 => ?_
  · have hne : ¬ a.length = b.length := by rw [e1] at h1; simp at h1; omega
    refine Ok.bv fun z2 e2 => Ok.sm ?_
    rw [if_neg hne]
    exact (wI64 e2).2 (by omega)
  · have he : a.length = b.length := by rw [e1] at h1; simp at h1; omega
    rw [if_pos he]
    refine Ok.bv fun J hJ => ?_
    refine Ok.bv fun B hB => ?_
    subst hB
    refine Ok.lp (fun s : Int => 0 ≤ s ∧ s ≤ a.length ∧ lexC (a.drop s.toNat) (b.drop s.toNat) = lexC a b) (fun s => (a.length - s).toNat) ⟨by omega, by omega, by simp⟩ (by omega) ?_
    rintro s ⟨s0, s1, s2⟩ next ih
    refine Ok.bv fun z3 e3 => Ok.it (fun h3 => ?_) fun h3 => ?_
    · have hlt : s < a.length := by rw [e3] at h3; simpa using h3
      rw [drop_gel s0 hlt, drop_gel s0 (by omega : s < (b.length : Int)), lexC_cons] at s2
      refine Ok.ck ⟨s0, hlt⟩ ?_
      refine Ok.bv fun x ex => ?_
      refine Ok.ck ⟨s0, by omega⟩ ?_
      refine Ok.bv fun y ey => ?_
      rw [← ex, ← ey] at s2
      have hc := cmpC_cases x y
      rw [addr_Less_eq]
      refine Ok.os fun y1 e4 => Ok.it (fun h4 => ?_) fun h4 => ?_
      · refine Ok.sm ?_
        rw [e4] at h4
        have hcm : cmpC x y = -1 := by unfold cmpC; rw [if_pos h4]
        rw [← s2, if_neg (by omega), hcm]
      · refine Ok.ck ⟨s0, by omega⟩ ?_
        refine Ok.bv fun y' ey' => ?_
        refine Ok.ck ⟨s0, hlt⟩ ?_
        refine Ok.bv fun x' ex' => ?_
        have exx : x' = x := by rw [ex', ex]
        have eyy : y' = y := by rw [ey', ey]
        subst exx eyy
        rw [addr_Less_eq]
        rw [e4] at h4
        refine Ok.os fun y2 e5 => Ok.it (fun h5 => ?_) fun h5 => ?_
        · refine Ok.sm ?_
          rw [e5] at h5
          have hcm : cmpC x' y' = 1 := by unfold cmpC; rw [if_neg (by rw [h4]; simp), if_pos h5]
          rw [← s2, if_neg (by omega), hcm]
        · refine Ok.bv fun z6 e6 => ?_
          have e6' : z6 = s + 1 := (wI64 e6).2 (by omega)
          rw [e5] at h5
          have h0 : cmpC x' y' = 0 := by
            rcases hc with hc | hc | hc
            · rw [hc.2] at h4; cases h4
            · rw [hc.2] at h5; cases h5
            · exact hc.1
          rw [if_pos h0, ← e6'] at s2
          exact ih _ ⟨by omega, by omega, s2⟩ (by omega)
    · have hge : ¬ s < a.length := by rw [e3] at h3; simpa using h3
      rw [hJ]
      refine Ok.sm ?_
      rw [← s2, List.drop_eq_nil_of_le (by omega), List.drop_eq_nil_of_le (by omega)]
      rfl
theorem poly_less_eq {a b : List C} (ha : a.length ≤ 1000) (hb : b.length ≤ 1000) : poly_less a b = some (lessL a b) := by
  obtain ⟨v, h, rfl⟩ := poly_less_tot ha hb
  exact h
theorem norm1_eq {x y : T} (ha : x.v.length ≤ 1000) (hb : y.v.length ≤ 1000) : poly_norm_1 x y = some (cfT x y) := by
  unfold poly_norm_1
  rw [poly_less_eq ha hb]
  rfl
theorem mul1_eq (x y : C) : poly_Mul_1 x y = some (cmpC x y) := by
  unfold poly_Mul_1 cmpC
  rw [addr_Less_eq, addr_Less_eq]
  simp only [obind]
  by_cases h1 : ltC x y = true
  · simp [h1]
  · by_cases h2 : ltC y x = true <;> simp [h1, h2]
theorem cmpT : InsT.Cmp cfT := ⟨fun x y => lessL_anti x.v y.v, fun x y z => lessL_trans x.v y.v z.v⟩
theorem cmpCC : InsC.Cmp cmpC := ⟨cmpC_anti, cmpC_trans⟩
/-- A list of cells in order. -/
def SrtC (l : List C) : Prop := l.Pairwise (fun x y => cmpC x y ≤ 0)
theorem SrtC.uniq : ∀ {a b : List C}, SrtC a → SrtC b → a.Perm b → a = b
  | [], b, _, _, h => h.symm.eq_nil.symm ▸ rfl
  | x :: a, b, ha, hb, h => by
    cases b with
    | nil => exact h.eq_nil
    | cons y b =>
      have hxy : x = y := by
        have h1 : cmpC x y ≤ 0 := by
          rcases List.mem_cons.1 (h.mem_iff.2 (List.mem_cons_self (a := y))) with e | e
          · rw [e, cmpC_self]; omega
          · exact (List.pairwise_cons.1 ha).1 y e
        have h2 : cmpC y x ≤ 0 := by
          rcases List.mem_cons.1 (h.mem_iff.1 (List.mem_cons_self (a := x))) with e | e
          · rw [e, cmpC_self]; omega
          · exact (List.pairwise_cons.1 hb).1 x e
        exact cmpC_eq h1 h2
      subst hxy
      congr 1
      exact SrtC.uniq (List.pairwise_cons.1 ha).2 (List.pairwise_cons.1 hb).2 (h.cons_inv)
theorem sortC_tot {l : List C} (hl : l.length ≤ 12) : Ok (slices_SortFunc_Cell l poly_Mul_1) (fun r => r.Perm l ∧ SrtC r) := by
  unfold slices_SortFunc_Cell
  refine Ok.bv fun z1 e1 => ?_
  have e1' : z1 = l.length := (wU64 e1).2 (by omega)
  refine Ok.ck (by omega) ?_
  refine Ok.bv fun z2 e2 => ?_
  unfold slices_pdqsortCmpFunc_Cell
  refine Ok.ob (R := fun r => r.Perm l ∧ SrtC r) ?_ fun y _ hy => Ok.sm hy
  refine Ok.bv fun B hB => ?_
  subst hB
  refine Ok.lp (fun s : Int × Int × Int × Bool × Bool × List C => s.1 = 0 ∧ s.2.1 = l.length ∧ s.2.2.2.2.2 = l) (fun _ => 0) ⟨rfl, rfl, rfl⟩ (by omega) ?_
  rintro ⟨a, b, c, d, e, s⟩ ⟨q1, q2, q3⟩ next ih
  simp only at q1 q2 q3 ⊢
  subst q1
  subst q3
  subst q2
  refine Ok.bv fun z3 e3 => ?_
  have e3' : z3 = s.length := by have := (wI64 e3).2 (by omega); omega
  refine Ok.bv fun z4 e4 => Ok.it (fun h4 => ?_) fun h4 => ?_
  · have := InsC.ins_ok cmpCC [] s [] (cmp := poly_Mul_1) (fun x _ y _ => mul1_eq x y) (by simp; omega) (a := 0) (b := s.length) (by simp) (by simp)
    simp only [List.nil_append, List.append_nil] at this
    refine Ok.ob (this.mono ?_) fun y _ hy => Ok.sm hy
    rintro v ⟨M', rfl, h1, h2⟩
    exact ⟨h1, h2⟩
  · rw [e4] at h4
    simp at h4
    omega
theorem sortT_small {l : List T} (hl : l.length ≤ 19) (hv : ∀ t ∈ l, t.v.length ≤ 1000) : Ok (slices_SortStableFunc_Term l poly_norm_1) (fun r => r.Perm l ∧ r.Pairwise (fun x y => lessL x.v y.v ≤ 0)) := by
  unfold slices_SortStableFunc_Term slices_stableCmpFunc_Term
  refine Ok.ob (R := fun r => r.Perm l ∧ r.Pairwise (fun x y => lessL x.v y.v ≤ 0)) ?_ fun y _ hy => Ok.sm hy
  refine Ok.bv fun J hJ => ?_
  refine Ok.bv fun B hB => ?_
  subst hB
  refine Ok.lp (fun s : Int × Int × List T => s = (0, 20, l)) (fun _ => 0) rfl (by omega) ?_
  rintro s rfl next ih
  refine Ok.bv fun z1 e1 => Ok.it (fun h1 => ?_) fun h1 => ?_
  · rw [e1] at h1
    simp at h1
    omega
  rw [hJ]
  have := InsT.ins_ok cmpT [] l [] (cmp := poly_norm_1) (fun x hx y hy => norm1_eq (hv x hx) (hv y hy)) (by simp; omega) (a := 0) (b := l.length) (by simp) (by simp)
  simp only [List.nil_append, List.append_nil] at this
  refine Ok.ob (this.mono (R := fun r => r.Perm l ∧ r.Pairwise (fun x y => lessL x.v y.v ≤ 0)) ?_) fun y _ hy => ?_
  · rintro v ⟨M', rfl, h1, h2⟩
    exact ⟨h1, h2⟩
  refine Ok.bv fun B hB => ?_
  subst hB
  refine Ok.lp (fun s : Int × List T => s = (20, y)) (fun _ => 0) rfl (by omega) ?_
  rintro s rfl next ih
  refine Ok.bv fun z2 e2 => Ok.it (fun h2 => ?_) fun h2 => ?_
  · rw [e2] at h2
    simp at h2
    omega
  · exact Ok.sm hy
theorem num_Add_eq {a b : Int} (ha : 0 ≤ a) (hb : 0 ≤ b) (hs : a + b ≤ 9223372036854775807) : num_Add a b = some (a + b, true) := by
  have : Ok (num_Add a b) (fun r => r = (a + b, true)) := by
    unfold num_Add num_fits
    refine Ok.bv fun z1 e1 => ?_
    have e1' : z1 = a + b := (wI64 e1).2 (by omega)
    refine Ok.ob (R := fun r => r = true) ?_ fun y _ hy => ?_
    · refine Ok.bv fun z2 e2 => Ok.sm ?_
      rw [e2]
      simp
      omega
    · refine Ok.bv fun z2 e2 => Ok.bv fun z3 e3 => Ok.bv fun z4 e4 => Ok.bv fun z5 e5 => Ok.sm ?_
      have : z2 = z3 := by
        rw [e2, e3, e1']
        by_cases h : 0 < b
        · simp [h]; omega
        · simp [h]; omega
      rw [e5, hy, e4, this, e1']
      simp
  obtain ⟨v, h, rfl⟩ := this
  exact h
/-- How a list of terms is put in order. -/
def SortsT (l : List T) : Prop := Ok (slices_SortStableFunc_Term l poly_norm_1) (fun r => r.Perm l ∧ r.Pairwise (fun x y => lessL x.v y.v ≤ 0))
theorem poly_norm_tot {l : List T} (hs : SortsT l) (hl : l.length ≤ 1000) (hv : ∀ t ∈ l, 0 ≤ t.n ∧ t.v.length ≤ 1000) (hn : sumN l ≤ 9223372036854775807) : Ok (poly_norm l) (NormOf l) := by
  unfold poly_norm
  refine Ok.ob hs fun y _ hy => ?_
  obtain ⟨hp, hso⟩ := hy
  have hpn : ∀ t ∈ y, 0 ≤ t.n ∧ t.v.length ≤ 1000 := fun t ht => hv t (hp.mem_iff.1 ht)
  have hyl := hp.length_eq
  have hsum : sumN y = sumN l := by
    have key : ∀ {a b : List T}, a.Perm b → sumN a = sumN b := by
      intro a b h
      induction h with
      | nil => rfl
      | cons x _ ih => simp only [sumN, ih]
      | swap x y l => simp only [sumN]; omega
      | trans _ _ h1 h2 => exact h1.trans h2
    exact key hp
  refine Ok.bv fun J hJ => ?_
  have hJ' : ∀ out : List T, ColI y out [] → Ok (J out) (NormOf l) := by
    intro out hc
    have hlen : out.length ≤ y.length := by have := hc.len; simpa using this
    have hnorm : ∀ res, res = (if fine out then (out, true) else ([], false)) → NormOf l res := fun res e =>
      ⟨out, hc.st, fun φ => by have := hc.ev φ; simp only [EV] at this; rw [← EV_perm φ hp]; omega, fun u hu => by
        obtain ⟨t, h1, h2⟩ := hc.sub u hu
        exact ⟨t, hp.mem_iff.1 h1, h2⟩, by omega, e⟩
    rw [hJ]
    refine Ok.bv fun z1 e1 => Ok.it (fun h1 => ?_) fun h1 => ?_
    · refine Ok.sm (hnorm _ ?_)
      rw [if_neg]
      intro hf
      have := hf.1
      rw [e1] at h1
      simp at h1
      omega
    · have h32 : out.length ≤ 32 := by rw [e1] at h1; simp at h1; omega
      refine Ok.bv fun J2 hJ2 => ?_
      refine Ok.bv fun B hB => ?_
      subst hB
      refine Ok.lp (fun s : Int => 0 ≤ s ∧ s ≤ out.length ∧ ∀ t ∈ out.take s.toNat, t.v.length ≤ 4 ∧ t.n ≤ 1000000) (fun s => (out.length - s).toNat) ⟨by omega, by omega, by simp⟩ (by omega) ?_
      rintro s ⟨s0, s1, s2⟩ next ih
      refine Ok.bv fun z2 e2 => Ok.it (fun h2 => ?_) fun h2 => ?_
      · have hlt : s < out.length := by rw [e2] at h2; simpa using h2
        refine Ok.ck ⟨s0, hlt⟩ ?_
        refine Ok.bv fun t et => ?_
        have htm : t ∈ out := by rw [et]; exact gel_mem ⟨s0, hlt⟩
        refine Ok.bv fun z3 e3 => Ok.bv fun z4 e4 => Ok.bv fun z5 e5 => Ok.it (fun h5 => ?_) fun h5 => ?_
        · refine Ok.sm (hnorm _ ?_)
          rw [if_neg]
          intro hf
          have := hf.2 t htm
          rw [e5, e3, e4] at h5
          simp at h5
          omega
        · refine Ok.bv fun z6 e6 => ?_
          have e6' : z6 = s + 1 := (wI64 e6).2 (by omega)
          refine ih _ ⟨by omega, by omega, fun u hu => ?_⟩ (by omega)
          rw [e6', take_gel s0 hlt, ← et] at hu
          rcases List.mem_append.1 hu with hu | hu
          · exact s2 u hu
          · obtain rfl : u = t := by simpa using hu
            rw [e5, e3, e4] at h5
            simp at h5
            omega
      · rw [hJ2]
        refine Ok.sm (hnorm _ ?_)
        rw [if_pos]
        have hge : ¬ s < out.length := by rw [e2] at h2; simpa using h2
        rw [List.take_of_length_le (by omega)] at s2
        exact ⟨h32, s2⟩
  clear hJ
  refine Ok.bv fun B hB => ?_
  subst hB
  refine Ok.lp (fun s : Int × List T => 0 ≤ s.1 ∧ s.1 ≤ y.length ∧ ColI y s.2 (y.drop s.1.toNat)) (fun s => (y.length - s.1).toNat) ⟨by simp, by simp, by simpa using ColI.start hso fun t ht => (hpn t ht).1⟩ (by simp only; omega) ?_
  rintro ⟨i, out⟩ ⟨s0, s1, s2⟩ next ih
  simp only at s0 s1 s2 ⊢
  refine Ok.bv fun z1 e1 => Ok.it (fun h1 => ?_) fun h1 => ?_
  · have hlt : i < y.length := by rw [e1] at h1; simpa using h1
    rw [drop_gel s0 hlt] at s2
    refine Ok.ck ⟨s0, hlt⟩ ?_
    refine Ok.bv fun t et => ?_
    rw [← et] at s2
    have htm : t ∈ y := by rw [et]; exact gel_mem ⟨s0, hlt⟩
    have ht := hpn t htm
    have hst := s2.step
    have hol : out.length ≤ y.length := by have := s2.len; omega
    have hos : ∀ u ∈ out, u.n ≤ sumN out := fun u hu => sumN_le (fun w hw => by have := s2.st.2 w hw; omega) hu
    have hrest := sumN_nonneg (l := y.drop (i + 1).toNat) fun u hu => (hpn u (List.mem_of_mem_drop hu)).1
    have hsm := s2.sum
    simp only [sumN] at hsm
    refine Ok.bv fun k ek => ?_
    have ek' : k = out.length - 1 := (wI64 ek).2 (by omega)
    refine Ok.bv fun z2 e2 => Ok.it (fun h2 => ?_) fun h2 => ?_
    · have h0 : t.n = 0 := by rw [e2] at h2; simpa using h2
      refine Ok.bv fun z3 e3 => ?_
      have e3' : z3 = i + 1 := (wI64 e3).2 (by omega)
      refine ih _ ⟨by simp only; omega, by simp only; omega, ?_⟩ (by simp only; omega)
      simp only [e3']
      unfold colS at hst
      rwa [if_pos h0] at hst
    · have h0 : ¬ t.n = 0 := by rw [e2] at h2; simpa using h2
      unfold colS at hst
      rw [if_neg h0] at hst
      refine Ok.bv fun z3 e3 => ?_
      refine Ok.ckf (fun hz => by rw [e3] at hz; simp at hz; omega) fun c1 => ?_
      refine Ok.bv fun u eu => ?_
      -- what stands last
      have hlast : out = [] ∨ out.getLast? = some u ∧ u ∈ out ∧ 0 ≤ k ∧ out.dropLast = out.take k.toNat := by
        rcases List.eq_nil_or_concat out with rfl | ⟨o, v, rfl⟩
        · exact .inl rfl
        · right
          have hk : k = o.length := by rw [ek']; simp
          have : u = v := by
            rw [eu, hk]
            unfold gel
            rw [List.getD_eq_getElem?_getD]
            simp
          subst this
          exact ⟨by simp, by simp, by omega, by simp [hk]⟩
      have hul : u.v.length ≤ 1000 ∧ (out ≠ [] → u ∈ out) := by
        rcases hlast with rfl | ⟨_, hm, _⟩
        · refine ⟨?_, fun h => absurd rfl h⟩
          have : gel ([] : List T) k = default := by
            unfold gel
            rw [List.getD_eq_getElem?_getD]
            simp
          rw [eu, this]
          exact (Nat.zero_le _ : ([] : List C).length ≤ 1000)
        · obtain ⟨w, h1, h2⟩ := s2.sub u hm
          rw [← h2]
          exact ⟨(hpn w h1).2, fun _ => hm⟩
      have hcall : Ok (if (!z3) = true then poly_less u.v t.v else some default) (fun r => z3 = false → r = lessL u.v t.v) := by
        cases z3 with
        | true => exact Ok.sm (fun h => by cases h)
        | false => exact (poly_less_tot hul.1 ht.2).mono fun v hv _ => hv
      refine Ok.ob hcall fun c _ hc => ?_
      refine Ok.bv fun z4 e4 => Ok.bv fun z5 e5 => Ok.it (fun h5 => ?_) fun h5 => ?_
      · -- a new one
        refine Ok.ck (by simp; omega) ?_
        refine Ok.bv fun o2 eo2 => ?_
        refine Ok.bv fun z6 e6 => ?_
        have e6' : z6 = i + 1 := (wI64 e6).2 (by omega)
        refine ih _ ⟨by simp only; omega, by simp only; omega, ?_⟩ (by simp only; omega)
        simp only [e6', eo2]
        rcases hlast with rfl | ⟨hl, hm, hk, _⟩
        · simpa using hst
        · rw [hl] at hst
          simp only at hst
          rw [if_neg] at hst
          · exact hst
          · have hz3 : z3 = false := by rw [e3]; simpa using hk
            rw [hz3] at e5
            have hc' := hc hz3
            rw [e5, e4, hc'] at h5
            simpa using h5
      · -- together
        rw [e5] at h5
        have hz3 : z3 = false := by
          cases z3 with
          | true => simp at h5
          | false => rfl
        have hc' := hc hz3
        rw [hz3, e4, hc'] at h5
        have hz : lessL u.v t.v = 0 := by simpa using h5
        have hk : 0 ≤ k := by rw [e3] at hz3; simpa using hz3
        rcases hlast with rfl | ⟨hl, hm, _, hd⟩
        · simp at ek'; omega
        rw [hl] at hst
        simp only at hst
        rw [if_pos hz] at hst
        refine Ok.ck ⟨hk, by omega⟩ ?_
        refine Ok.bv fun u2 eu2 => ?_
        have : u2 = u := by rw [eu2, eu]
        subst this
        have hun := s2.st.2 u2 hm
        have hus := hos u2 hm
        rw [num_Add_eq (by omega) (by omega) (by omega)]
        refine Ok.os fun p ep => ?_
        subst ep
        refine Ok.bv fun z6 e6 => ?_
        rw [e6]
        simp only [Bool.not_true, Bool.false_eq_true, if_false]
        refine Ok.ck ⟨hk, by omega⟩ ?_
        refine Ok.bv fun u3 eu3 => ?_
        have : u3 = u2 := by rw [eu3, eu2]
        subst this
        refine Ok.bv fun o2 eo2 => ?_
        refine Ok.bv fun z7 e7 => ?_
        have e7' : z7 = i + 1 := (wI64 e7).2 (by omega)
        refine ih _ ⟨by simp only; omega, by simp only; omega, ?_⟩ (by simp only; omega)
        simp only [e7', eo2]
        have hset : out.set k.toNat ⟨u3.n + t.n, u3.v⟩ = out.dropLast ++ [⟨u3.n + t.n, u3.v⟩] := by
          have hkl : k.toNat + 1 = out.length := by omega
          rw [hd, List.set_eq_take_append_cons_drop, if_pos (by omega), List.drop_eq_nil_of_le (by omega)]
        rw [hset]
        exact hst
  · have hge : ¬ i < y.length := by rw [e1] at h1; simpa using h1
    rw [List.drop_eq_nil_of_le (by omega)] at s2
    exact hJ' out s2
end Go.Sp
