/- Polynomials: constants, sums, products, and what Make makes. -/
import Derived.Test.YtlpfcclecmalhaaDoorPlNorm
set_option linter.unusedSimpArgs false
set_option linter.unusedVariables false
set_option linter.unusedSectionVars false
namespace Go.Sp
open Go.Stp Go.ValP
theorem NormOf.cst {c : Int} (h : 0 ≤ c ∧ c ≤ 1000000) {a : List T × Bool} (k : NormOf [⟨c, []⟩] a) : a = (if c = 0 then [] else [⟨c, []⟩], true) := by
  by_cases h0 : c = 0
  · rw [if_pos h0]
    subst h0
    exact k.stay StP.nil ⟨by simp, by simp⟩ fun φ => by simp [EV]
  · rw [if_neg h0]
    refine k.stay ⟨List.pairwise_singleton _ _, fun t ht => ?_⟩ ⟨by simp, fun t ht => ?_⟩ fun φ => rfl
    · obtain rfl : t = ⟨c, []⟩ := by simpa using ht
      simp only; omega
    · obtain rfl : t = ⟨c, []⟩ := by simpa using ht
      exact ⟨by simp, h.2⟩
theorem poly_Const_tot {c : Int} : Ok (poly_Const c) (fun r => (0 ≤ c ∧ c ≤ 1000000 → r = (if c = 0 then [] else [⟨c, []⟩], true)) ∧ (¬ (0 ≤ c ∧ c ≤ 1000000) → r = ([], false))) := by
  unfold poly_Const
  refine Ok.bv fun z1 e1 => Ok.bv fun z2 e2 => Ok.bv fun z3 e3 => Ok.it (fun h => ?_) fun h => ?_
  · rw [e3, e1, e2] at h
    simp at h
    exact Ok.sm ⟨fun h' => by omega, fun _ => rfl⟩
  · rw [e3, e1, e2] at h
    simp at h
    refine Ok.ob (poly_norm_tot (sortT_small (by simp) (by simp)) (by simp) (by simp; omega) (by simp [sumN]; omega)) fun y _ hy => Ok.sm ⟨fun h' => ?_, fun h' => by omega⟩
    exact hy.cst h'
theorem Var_eq (c : C) : poly_Var c = some [⟨1, [c]⟩] := rfl
theorem flatten_take {α : Type} [Inhabited α] {ps : List (List α)} {i : Int} (h0 : 0 ≤ i) (h1 : i < (ps.length : Int)) : (ps.take (i + 1).toNat).flatten = (ps.take i.toNat).flatten ++ gel ps i := by
  rw [take_gel h0 h1, List.flatten_append]
  simp
theorem poly_Add_tot {ps : List (List T)} (hs : SortsT ps.flatten) (hp : ps.length ≤ 1000) (hl : ps.flatten.length ≤ 1000) (hv : ∀ t ∈ ps.flatten, 0 ≤ t.n ∧ t.v.length ≤ 1000) (hn : sumN ps.flatten ≤ 9223372036854775807) : Ok (poly_Add ps) (NormOf ps.flatten) := by
  unfold poly_Add
  refine Ok.bv fun J hJ => ?_
  refine Ok.bv fun B hB => ?_
  subst hB
  refine Ok.lp (fun s : Int × List T => 0 ≤ s.1 ∧ s.1 ≤ ps.length ∧ s.2 = (ps.take s.1.toNat).flatten) (fun s => (ps.length - s.1).toNat) ⟨by simp, by simp, by simp⟩ (by simp only; omega) ?_
  rintro ⟨i, all⟩ ⟨s0, s1, s2⟩ next ih
  simp only at s0 s1 s2 ⊢
  refine Ok.bv fun z1 e1 => Ok.it (fun h1 => ?_) fun h1 => ?_
  · have hlt : i < ps.length := by rw [e1] at h1; simpa using h1
    refine Ok.ck ⟨s0, hlt⟩ ?_
    refine Ok.bv fun p ep => ?_
    have hnx := flatten_take s0 hlt
    rw [← ep, ← s2] at hnx
    have hle : (all ++ p).length ≤ 1000 := by
      rw [← hnx]
      have : ((ps.take (i + 1).toNat).flatten).length ≤ ps.flatten.length := by
        conv => rhs; rw [← List.take_append_drop (i + 1).toNat ps, List.flatten_append, List.length_append]
        omega
      omega
    rw [List.length_append] at hle
    refine Ok.ck (by omega) ?_
    refine Ok.bv fun z2 e2 => Ok.bv fun z3 e3 => ?_
    have e3' : z3 = i + 1 := (wI64 e3).2 (by omega)
    exact ih _ ⟨by simp only; omega, by simp only; omega, by simp only [e2, e3']; exact hnx.symm⟩ (by simp only; omega)
  · have hge : ¬ i < ps.length := by rw [e1] at h1; simpa using h1
    rw [List.take_of_length_le (by omega)] at s2
    rw [hJ, s2]
    exact Ok.ob (poly_norm_tot hs hl hv hn) fun y _ hy => Ok.sm hy
/-- Cells put in order. -/
def insC (x : C) : List C → List C
  | [] => [x]
  | y :: l => if cmpC x y ≤ 0 then x :: y :: l else y :: insC x l
def srtC : List C → List C
  | [] => []
  | x :: l => insC x (srtC l)
theorem insC_perm (x : C) : ∀ (l : List C), (insC x l).Perm (x :: l)
  | [] => .refl _
  | y :: l => by
    unfold insC
    split
    · exact .refl _
    · exact ((insC_perm x l).cons y).trans (List.Perm.swap x y l)
theorem insC_srt (x : C) : ∀ {l : List C}, SrtC l → SrtC (insC x l)
  | [], _ => List.pairwise_singleton _ _
  | y :: l, h => by
    have h' := List.pairwise_cons.1 h
    unfold insC
    split
    · rename_i hc
      refine List.pairwise_cons.2 ⟨fun z hz => ?_, h⟩
      rcases List.mem_cons.1 hz with rfl | hz
      · exact hc
      · exact cmpC_trans x y z hc (h'.1 z hz)
    · rename_i hc
      refine List.pairwise_cons.2 ⟨fun z hz => ?_, insC_srt x h'.2⟩
      rcases List.mem_cons.1 ((insC_perm x l).mem_iff.1 hz) with rfl | hz
      · have := cmpC_anti y z
        have := cmpC_anti z y
        omega
      · exact h'.1 z hz
theorem srtC_perm : ∀ (l : List C), (srtC l).Perm l
  | [] => .refl _
  | x :: l => (insC_perm x (srtC l)).trans ((srtC_perm l).cons x)
theorem srtC_srt : ∀ (l : List C), SrtC (srtC l)
  | [] => List.Pairwise.nil
  | x :: l => insC_srt x (srtC_srt l)
theorem srtC_eq {a b : List C} (h : a.Perm b) : srtC a = srtC b := (srtC_srt a).uniq (srtC_srt b) ((srtC_perm a).trans (h.trans (srtC_perm b).symm))
theorem srtC_of {a : List C} (h : SrtC a) : srtC a = a := (srtC_srt a).uniq h (srtC_perm a)
theorem sortC_eq {l : List C} (hl : l.length ≤ 12) : slices_SortFunc_Cell l poly_Mul_1 = some (srtC l) := by
  obtain ⟨v, h, h1, h2⟩ := sortC_tot hl
  rw [h, h2.uniq (srtC_srt l) (h1.trans (srtC_perm l).symm)]
def row1 (x : T) (b : List T) : List T := b.map fun y => ⟨x.n * y.n, srtC (x.v ++ y.v)⟩
def prods (a b : List T) : List T := a.flatMap fun x => row1 x b
theorem poly_Mul_tot {a b : List T} (hs : SortsT (prods a b)) (ha : a.length ≤ 1000) (hb : b.length ≤ 1000) (hl : (prods a b).length ≤ 1000) (hx : ∀ x ∈ a, ∀ y ∈ b, x.v.length + y.v.length ≤ 12 ∧ 0 ≤ x.n * y.n ∧ x.n * y.n ≤ 1000000000000) : Ok (poly_Mul a b) (NormOf (prods a b)) := by
  have hmem : ∀ t ∈ prods a b, ∃ x ∈ a, ∃ y ∈ b, t = ⟨x.n * y.n, srtC (x.v ++ y.v)⟩ := fun t ht => by
    obtain ⟨x, h1, h2⟩ := List.mem_flatMap.1 ht
    obtain ⟨y, h3, h4⟩ := List.mem_map.1 h2
    exact ⟨x, h1, y, h3, h4.symm⟩
  have hv : ∀ t ∈ prods a b, 0 ≤ t.n ∧ t.v.length ≤ 1000 := fun t ht => by
    obtain ⟨x, h1, y, h2, rfl⟩ := hmem t ht
    have := hx x h1 y h2
    refine ⟨this.2.1, ?_⟩
    simp only [(srtC_perm _).length_eq, List.length_append]
    omega
  have hn : sumN (prods a b) ≤ 9223372036854775807 := by
    have key : ∀ (l : List T), (∀ t ∈ l, t.n ≤ 1000000000000) → sumN l ≤ l.length * 1000000000000 := by
      intro l
      induction l with
      | nil => intro _; simp [sumN]
      | cons t l ih =>
        intro h
        have h1 := h t (by simp)
        have h2 := ih fun u hu => h u (by simp [hu])
        simp only [sumN, List.length_cons]
        omega
    have := key (prods a b) fun t ht => by
      obtain ⟨x, h1, y, h2, rfl⟩ := hmem t ht
      exact (hx x h1 y h2).2.2
    omega
  unfold poly_Mul
  refine Ok.bv fun J hJ => ?_
  refine Ok.bv fun B hB => ?_
  subst hB
  refine Ok.lp (fun s : Int × List T => 0 ≤ s.1 ∧ s.1 ≤ a.length ∧ s.2 = prods (a.take s.1.toNat) b) (fun s => (a.length - s.1).toNat) ⟨by simp, by simp, by simp [prods]⟩ (by simp only; omega) ?_
  rintro ⟨i, all⟩ ⟨s0, s1, s2⟩ next ih
  simp only at s0 s1 s2 ⊢
  refine Ok.bv fun z1 e1 => Ok.it (fun h1 => ?_) fun h1 => ?_
  · have hlt : i < a.length := by rw [e1] at h1; simpa using h1
    refine Ok.ck ⟨s0, hlt⟩ ?_
    refine Ok.bv fun x ex => ?_
    have hxa : x ∈ a := by rw [ex]; exact gel_mem ⟨s0, hlt⟩
    have hnx : prods (a.take (i + 1).toNat) b = all ++ row1 x b := by
      rw [take_gel s0 hlt, ← ex, s2]
      unfold prods
      rw [List.flatMap_append]
      simp
    have hle : (all ++ row1 x b).length ≤ 1000 := by
      rw [← hnx]
      have : (prods (a.take (i + 1).toNat) b).length ≤ (prods a b).length := by
        unfold prods
        conv => rhs; rw [← List.take_append_drop (i + 1).toNat a, List.flatMap_append, List.length_append]
        omega
      omega
    rw [List.length_append] at hle
    have hrl : (row1 x b).length = b.length := by simp [row1]
    refine Ok.bv fun B2 hB2 => ?_
    subst hB2
    refine Ok.lp (fun t : Int × List T => 0 ≤ t.1 ∧ t.1 ≤ b.length ∧ t.2 = all ++ row1 x (b.take t.1.toNat)) (fun t => (b.length - t.1).toNat) ⟨by simp, by simp, by simp [row1]⟩ (by simp only; omega) ?_
    rintro ⟨j, al2⟩ ⟨t0, t1, t2⟩ next2 ih2
    simp only at t0 t1 t2 ⊢
    refine Ok.bv fun z2 e2 => Ok.it (fun h2 => ?_) fun h2 => ?_
    · have hlt2 : j < b.length := by rw [e2] at h2; simpa using h2
      refine Ok.ck ⟨t0, hlt2⟩ ?_
      refine Ok.bv fun y ey => ?_
      have hyb : y ∈ b := by rw [ey]; exact gel_mem ⟨t0, hlt2⟩
      have hxy := hx x hxa y hyb
      refine Ok.ck (by omega) ?_
      refine Ok.ck (by omega) ?_
      refine Ok.bv fun v ev => ?_
      rw [sortC_eq (by rw [ev, List.length_append]; exact hxy.1)]
      refine Ok.os fun w ew => ?_
      refine Ok.bv fun m em => ?_
      have em' : m = x.n * y.n := (wI64 em).2 (by omega)
      have hal : al2.length ≤ 1000 := by
        rw [t2, List.length_append]
        have : (row1 x (b.take j.toNat)).length ≤ b.length := by simp [row1]; omega
        omega
      refine Ok.ck (by simp; omega) ?_
      refine Ok.bv fun z3 e3 => Ok.bv fun z4 e4 => ?_
      have e4' : z4 = j + 1 := (wI64 e4).2 (by omega)
      refine ih2 _ ⟨by simp only; omega, by simp only; omega, ?_⟩ (by simp only; omega)
      simp only [e3, e4', t2, take_gel t0 hlt2, ← ey, ew, ev, em']
      simp [row1]
    · have hge2 : ¬ j < b.length := by rw [e2] at h2; simpa using h2
      rw [List.take_of_length_le (by omega)] at t2
      refine Ok.bv fun z3 e3 => ?_
      have e3' : z3 = i + 1 := (wI64 e3).2 (by omega)
      exact ih _ ⟨by simp only; omega, by simp only; omega, by simp only [e3', t2]; exact hnx.symm⟩ (by simp only; omega)
  · have hge : ¬ i < a.length := by rw [e1] at h1; simpa using h1
    rw [List.take_of_length_le (by omega)] at s2
    rw [hJ, s2]
    exact Ok.ob (poly_norm_tot hs hl hv hn) fun y _ hy => Ok.sm hy
/-- A polynomial of at most k terms over the first four cells. -/
structure MkP (k : Nat) (p : List T) : Prop where
  st : StP p
  fi : fine p
  so : ∀ t ∈ p, SrtC t.v
  ce : ∀ t ∈ p, ∀ c ∈ t.v, c.s = 0 ∧ c.r = 0 ∧ 0 ≤ c.c ∧ c.c ≤ 3
  len : p.length ≤ k
theorem MkP.nil {k : Nat} : MkP k [] := ⟨StP.nil, ⟨by simp, by simp⟩, by simp, by simp, by simp⟩
theorem MkP.one {n : Int} {v : List C} (hn : 0 < n ∧ n ≤ 1000000) (hv : v.length ≤ 1) (hc : ∀ c ∈ v, c.s = 0 ∧ c.r = 0 ∧ 0 ≤ c.c ∧ c.c ≤ 3) : MkP 1 [⟨n, v⟩] := by
  have key : ∀ t ∈ [(⟨n, v⟩ : T)], t = ⟨n, v⟩ := fun t ht => by simpa using ht
  refine ⟨⟨List.pairwise_singleton _ _, fun t ht => by rw [key t ht]; exact hn.1⟩, ⟨by simp, fun t ht => by rw [key t ht]; exact ⟨by simp only; omega, hn.2⟩⟩, fun t ht => ?_, fun t ht => by rw [key t ht]; exact hc, by simp⟩
  rw [key t ht]
  match v, hv with
  | [], _ => exact List.Pairwise.nil
  | [c], _ => exact List.pairwise_singleton _ _
theorem sumN_bd {B : Int} (hB : 0 ≤ B) : ∀ {l : List T}, (∀ t ∈ l, t.n ≤ B) → sumN l ≤ l.length * B
  | [], _ => by simp [sumN]
  | t :: l, h => by
    have h1 := h t (by simp)
    have h2 := sumN_bd hB (l := l) fun u hu => h u (by simp [hu])
    simp only [sumN, List.length_cons]
    have : ((l.length + 1 : Nat) : Int) * B = l.length * B + B := by rw [Int.natCast_add, Int.add_mul]; simp
    omega
theorem MkP.vl {k : Nat} {p : List T} (h : MkP k p) : ∀ t ∈ p, 0 < t.n ∧ t.n ≤ 1000000 ∧ t.v.length ≤ 4 := fun t ht => ⟨h.st.2 t ht, (h.fi.2 t ht).2, (h.fi.2 t ht).1⟩
theorem MkP.add {k m : Nat} {p q : List T} (hp : MkP k p) (hq : MkP m q) (hk : k + m ≤ 19) : Ok (poly_Add [p, q]) (fun r => NormOf (p ++ q) r ∧ (r.2 = true → MkP (k + m) r.1)) := by
  have e : [p, q].flatten = p ++ q := by simp
  have hl : (p ++ q).length ≤ k + m := by rw [List.length_append]; have := hp.len; have := hq.len; omega
  have hv : ∀ t ∈ p ++ q, 0 < t.n ∧ t.n ≤ 1000000 ∧ t.v.length ≤ 4 := fun t ht => by
    rcases List.mem_append.1 ht with h | h
    · exact hp.vl t h
    · exact hq.vl t h
  have hsum := sumN_bd (B := 1000000) (by omega) (l := p ++ q) fun t ht => (hv t ht).2.1
  have := poly_Add_tot (ps := [p, q]) (by rw [e]; exact sortT_small (by omega) fun t ht => by have := hv t ht; omega) (by simp) (by rw [e]; omega) (by rw [e]; exact fun t ht => by have := hv t ht; omega) (by rw [e]; omega)
  rw [e] at this
  refine this.mono fun r hr => ⟨hr, fun h2 => ?_⟩
  obtain ⟨h3, h4, _, h6, h7⟩ := hr.ok h2
  have hsub : ∀ t ∈ r.1, ∃ u, (u ∈ p ∨ u ∈ q) ∧ u.v = t.v := fun t ht => by
    obtain ⟨u, h8, h9⟩ := h6 t ht
    exact ⟨u, List.mem_append.1 h8, h9⟩
  refine ⟨h3, h4, fun t ht => ?_, fun t ht => ?_, by omega⟩
  · obtain ⟨u, h8 | h8, h9⟩ := hsub t ht
    · rw [← h9]; exact hp.so u h8
    · rw [← h9]; exact hq.so u h8
  · obtain ⟨u, h8 | h8, h9⟩ := hsub t ht
    · rw [← h9]; exact hp.ce u h8
    · rw [← h9]; exact hq.ce u h8
theorem mul_bd {a b A B : Int} (ha : 0 < a ∧ a ≤ A) (hb : 0 < b ∧ b ≤ B) : 0 < a * b ∧ a * b ≤ A * B :=
  ⟨Int.mul_pos ha.1 hb.1, Int.mul_le_mul ha.2 hb.2 (by omega) (by omega)⟩
theorem prods_len (a b : List T) : (prods a b).length = a.length * b.length := by
  unfold prods
  induction a with
  | nil => simp
  | cons x a ih => simp only [List.flatMap_cons, List.length_append, ih, List.length_cons, Nat.add_mul]; simp [row1]; omega
theorem MkP.mul' {k m : Nat} {p q : List T} (hp : MkP k p) (hq : MkP m q) (hs : SortsT (prods p q)) (hk : k * m ≤ 1000) (hk1 : k ≤ 1000) (hm1 : m ≤ 1000) : Ok (poly_Mul p q) (fun r => NormOf (prods p q) r ∧ (r.2 = true → MkP (k * m) r.1)) := by
  have hl : (prods p q).length ≤ k * m := by rw [prods_len]; exact Nat.mul_le_mul hp.len hq.len
  have hpl := hp.len
  have hql := hq.len
  refine (poly_Mul_tot hs (by omega) (by omega) (by omega) fun x hx y hy => ?_).mono fun r hr => ⟨hr, fun h2 => ?_⟩
  · have h1 := hp.vl x hx
    have h2 := hq.vl y hy
    have h3 := mul_bd (A := 1000000) (B := 1000000) ⟨h1.1, h1.2.1⟩ ⟨h2.1, h2.2.1⟩
    omega
  · obtain ⟨h3, h4, _, h6, h7⟩ := hr.ok h2
    have hsub : ∀ t ∈ r.1, ∃ x ∈ p, ∃ y ∈ q, t.v = srtC (x.v ++ y.v) := fun t ht => by
      obtain ⟨u, h8, h9⟩ := h6 t ht
      obtain ⟨x, h1, h2⟩ := List.mem_flatMap.1 h8
      obtain ⟨y, h3, h4⟩ := List.mem_map.1 h2
      exact ⟨x, h1, y, h3, by rw [← h9, ← h4]⟩
    refine ⟨h3, h4, fun t ht => ?_, fun t ht c hc => ?_, by omega⟩
    · obtain ⟨x, _, y, _, e⟩ := hsub t ht
      rw [e]; exact srtC_srt _
    · obtain ⟨x, hx, y, hy, e⟩ := hsub t ht
      rw [e] at hc
      rcases List.mem_append.1 ((srtC_perm _).mem_iff.1 hc) with h | h
      · exact hp.ce x hx c h
      · exact hq.ce y hy c h
theorem MkP.mul {k m : Nat} {p q : List T} (hp : MkP k p) (hq : MkP m q) (hk : k * m ≤ 19) (hk1 : k ≤ 19) (hm1 : m ≤ 19) : Ok (poly_Mul p q) (fun r => NormOf (prods p q) r ∧ (r.2 = true → MkP (k * m) r.1)) := by
  refine hp.mul' hq (sortT_small ?_ fun t ht => ?_) (by omega) (by omega) (by omega)
  · rw [prods_len]
    exact Nat.le_trans (Nat.mul_le_mul hp.len hq.len) hk
  · obtain ⟨x, h1, h2⟩ := List.mem_flatMap.1 ht
    obtain ⟨y, h3, h4⟩ := List.mem_map.1 h2
    rw [← h4]
    simp only [(srtC_perm _).length_eq, List.length_append]
    have := hp.vl x h1
    have := hq.vl y h3
    omega
theorem MkP.mono {k m : Nat} {p : List T} (h : MkP k p) (hk : k ≤ m) : MkP m p := ⟨h.st, h.fi, h.so, h.ce, Nat.le_trans h.len hk⟩
theorem u8_and3 : ∀ n : Fin 256, 0 ≤ bits .and .u8 (n.val : Int) 3 ∧ bits .and .u8 (n.val : Int) 3 ≤ 3 := by decide +kernel
theorem u8_shr5 : ∀ n : Fin 256, 0 ≤ shrI .u8 (n.val : Int) 5 ∧ shrI .u8 (n.val : Int) 5 ≤ 7 := by decide +kernel
theorem u8_fin {x : Int} (h : 0 ≤ x ∧ x ≤ 255) : ∃ n : Fin 256, x = (n.val : Int) := ⟨⟨x.toNat, by omega⟩, by simp; omega⟩
/-- What Make hands back. -/
def MadeP (r : List T × Bool) : Prop := (r.2 = false → r.1 = []) ∧ (r.2 = true → MkP 14 r.1)
theorem Make_tot {l : List Int} (hl : (l.length : Int) ≤ 9223372036854775807) (hb : ∀ x ∈ l, 0 ≤ x ∧ x ≤ 255) : Ok (reckonerlaw15_Make l) MadeP := by
  unfold reckonerlaw15_Make
  refine Ok.ob poly_Const_tot fun y _ hy => ?_
  have hy := hy.1 (by omega)
  rw [if_neg (by omega)] at hy
  subst hy
  refine Ok.bv fun J hJ => ?_
  refine Ok.bv fun B hB => ?_
  subst hB
  refine Ok.lp (fun s : List T × Bool × Int => 0 ≤ s.2.2 ∧ s.2.2 ≤ 13 ∧ s.2.2 ≤ l.length ∧ ((s.2.1 = false ∧ s.1 = []) ∨ (s.2.1 = true ∧ MkP (s.2.2.toNat + 1) s.1))) (fun s => (l.length - s.2.2).toNat) ⟨by simp, by simp, by simp, .inr ⟨rfl, by simpa using MkP.one (n := 1) (v := []) (by omega) (by simp) (by simp)⟩⟩ (by simp only; omega) ?_
  rintro ⟨p, ok, i⟩ ⟨s0, s1, s1', s2⟩ next ih
  simp only at s0 s1 s1' s2 ⊢
  have hJ' : Ok (J (p, ok)) MadeP := by
    rw [hJ]
    refine Ok.sm ?_
    rcases s2 with ⟨h1, h2⟩ | ⟨h1, h2⟩
    · exact ⟨fun _ => h2, fun h => by simp only at h; rw [h1] at h; cases h⟩
    · exact ⟨fun h => (by simp only at h; rw [h1] at h; cases h), fun _ => h2.mono (by omega)⟩
  refine Ok.bv fun z1 e1 => Ok.it (fun h1 => ?_) fun h1 => hJ'
  have hlt : i < l.length := by rw [e1] at h1; simpa using h1
  refine Ok.ck ⟨s0, hlt⟩ ?_
  refine Ok.bv fun x ex => ?_
  obtain ⟨n, hn⟩ := u8_fin (hb x (by rw [ex]; exact gel_mem ⟨s0, hlt⟩))
  refine Ok.bv fun z2 e2 => ?_
  have h3 := u8_and3 n
  rw [← hn, ← e2] at h3
  refine Ok.bv fun z3 e3 => ?_
  have e3' : z3 = z2 := (wI64 e3).2 (by omega)
  rw [Var_eq]
  refine Ok.os fun y ey => ?_
  refine Ok.bv fun J2 hJ2 => ?_
  have hJ2' : ∀ q, MkP 1 q → Ok (J2 q) MadeP := by
    intro q hq
    rw [hJ2]
    refine Ok.bv fun a1 b1 => Ok.bv fun a2 b2 => Ok.bv fun a3 b3 => Ok.it (fun h => hJ') fun h => ?_
    rw [b3, b1, b2] at h
    simp at h
    have hp : MkP (i.toNat + 1) p := by
      rcases s2 with ⟨h1, _⟩ | ⟨_, h2⟩
      · rw [h1] at h; simp at h
      · exact h2
    have nxt : ∀ (r : List T × Bool) (l' : List T), NormOf l' r → (r.2 = true → MkP (i.toNat + 2) r.1) → ∀ z, z = IntKind.wrap .i64 (i + 1) → Ok (next (r.1, r.2, z)) MadeP := by
      intro r l' hr hm z hz
      have hz' : z = i + 1 := (wI64 hz).2 (by omega)
      refine ih _ ⟨by simp only; omega, by simp only; omega, by simp only; omega, ?_⟩ (by simp only; omega)
      simp only
      cases h2 : r.2 with
      | false => exact .inl ⟨rfl, hr.not h2⟩
      | true => exact .inr ⟨rfl, (hm h2).mono (by omega)⟩
    refine Ok.bv fun a4 b4 => Ok.bv fun a5 b5 => Ok.it (fun h5 => ?_) fun h5 => ?_
    · refine Ok.ob (hp.mul hq (by omega) (by omega) (by omega)) fun r _ hr => Ok.bv fun z hz => nxt r _ hr.1 (fun h => (hr.2 h).mono (by omega)) z hz
    · refine Ok.ob (hp.add hq (by omega)) fun r _ hr => Ok.bv fun z hz => nxt r _ hr.1 (fun h => (hr.2 h).mono (by omega)) z hz
  refine Ok.bv fun z4 e4 => Ok.bv fun z5 e5 => Ok.it (fun h5 => ?_) fun h5 => ?_
  · refine Ok.ck (by omega) ?_
    refine Ok.bv fun z6 e6 => ?_
    have h6 := u8_shr5 n
    rw [← hn, ← e6] at h6
    refine Ok.bv fun z7 e7 => ?_
    have e7' : z7 = z6 := (wI64 e7).2 (by omega)
    refine Ok.ob poly_Const_tot fun r _ hr => ?_
    have hr := hr.1 (by omega)
    refine hJ2' _ ?_
    rw [hr]
    simp only
    split
    · exact MkP.nil
    · exact MkP.one (by omega) (by simp) (by simp)
  · refine hJ2' _ ?_
    rw [ey]
    exact MkP.one (by omega) (by simp) fun c hc => by
      obtain rfl : c = ⟨0, z3, 0⟩ := by simpa using hc
      exact ⟨rfl, rfl, by simp only; omega, by simp only; omega⟩
end Go.Sp
