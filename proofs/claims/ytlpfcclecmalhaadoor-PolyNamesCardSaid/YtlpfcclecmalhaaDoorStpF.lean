/- The step library, ninth part: regions that draw their order: operations that only grow the memory, each value told by what holds of it in all later worlds. -/
import Derived.Test.YtlpfcclecmalhaaDoorStpG
set_option linter.unusedSimpArgs false
set_option linter.unusedVariables false
set_option linter.unusedSectionVars false
namespace Go.Stp
open Go.RowKit

/-- What is known of a slot: its value, or what holds of it. -/
inductive RL where
  | eq (V : Value)
  | rel (R : World → Value → Prop)
  | ivl (R : Nat → Nat → World → Value → Prop)
def RL.holds (r : RL) (w : World) (v : Value) : Prop := match r with
  | .eq V => v = V
  | .rel R => R w v
  | .ivl R => ∃ lo hi, R lo hi w v
/-- .. the blocks that the operation has laid lying between lo and hi. -/
def RL.at (r : RL) (lo hi : Nat) (w : World) (v : Value) : Prop := match r with
  | .eq V => v = V
  | .rel R => R w v
  | .ivl R => R lo hi w v
theorem RL.at.holds {r : RL} {lo hi : Nat} {w : World} {v : Value} (h : r.at lo hi w v) : r.holds w v := by
  cases r with
  | eq V => exact h
  | rel R => exact h
  | ivl R => exact ⟨lo, hi, h⟩
def Stab (R : World → Value → Prop) : Prop := ∀ w w' v, Ext w w' → R w v → R w' v
def RL.stab (r : RL) : Prop := match r with
  | .eq _ => True
  | .rel R => Stab R
  | .ivl R => ∀ lo hi, Stab (R lo hi)
theorem RL.stab.on {r : RL} (h : r.stab) {w w' : World} {v : Value} (X : Ext w w') (hv : r.holds w v) : r.holds w' v := by
  cases r with
  | eq V => exact hv
  | rel R => exact h w w' v X hv
  | ivl R =>
    obtain ⟨lo, hi, hv⟩ := hv
    exact ⟨lo, hi, h lo hi w w' v X hv⟩

def lookL : List (Nat × RL) → Nat → Option RL
  | [], _ => none
  | (k, v) :: l, i => bif Nat.beq k i then some v else lookL l i
def eqs : List (Nat × Value) → List (Nat × RL)
  | [] => []
  | (k, v) :: l => (k, .eq v) :: eqs l
theorem lookL_eqs : ∀ (l : List (Nat × Value)) (i : Nat) (r : RL), lookL (eqs l) i = some r → ∃ v, r = .eq v ∧ look l i = some v
  | [], i, r, h => by cases h
  | (k, v) :: l, i, r, h => by
    simp only [eqs, lookL] at h
    cases hb : Nat.beq k i with
    | true =>
      rw [hb] at h
      simp only [cond_true, Option.some.injEq] at h
      exact ⟨v, h.symm, by simp [look, hb]⟩
    | false =>
      rw [hb] at h
      simp only [cond_false] at h
      obtain ⟨u, h1, h2⟩ := lookL_eqs l i r h
      exact ⟨u, h1, by simp [look, hb, h2]⟩

/-- The block that a value points into. -/
def ownB : Value → Option Nat
  | .pointer (some a) => some a.block
  | .slice (some a) _ _ => some a.block
  | _ => none

structure FrR (n : Nm) (L : List (Nat × RL)) (a : Act) (w : World) : Prop where
  size : a.tmps.size = n.n
  defers : a.defers = n.ds
  has : ∀ s r, lookL L s = some r → r.holds w (a.tmps.getD s undef)
def FrOn (S : List Nat) (L : List (Nat × RL)) (a : Act) (w : World) : Prop := ∀ s ∈ S, ∀ r, lookL L s = some r → r.holds w (a.tmps.getD s undef)
structure Fresh (w1 : World) (L : List (Nat × RL)) (A : List Nat) (a : Act) (w : World) : Prop where
  iv : ∀ s R, lookL L s = some (.ivl R) → ∃ lo hi, w1.heap.size ≤ lo ∧ R lo hi w (a.tmps.getD s undef) ∧ ∀ t ∈ A, t ≠ s → ∀ b, ownB (a.tmps.getD t undef) = some b → b < lo ∨ hi ≤ b
  lo : ∀ s ∈ A, ∀ b, ownB (a.tmps.getD s undef) = some b → w1.heap.size ≤ b ∧ b < w.heap.size
  ne : ∀ s ∈ A, ∀ t ∈ A, s ≠ t → ∀ b, ownB (a.tmps.getD s undef) = some b → ownB (a.tmps.getD t undef) ≠ some b

def StepF (P : Program) (ops : Array Oper) (o : Oper) (fr : Bool) (r : RL) (a : Act) (w : World) : Prop :=
  (Region.wanted o (yielded ops a.tmps) = false ∧ r.at w.heap.size w.heap.size w undef) ∨
  (Region.wanted o (yielded ops a.tmps) = true ∧ ∀ (K : Act → World → Prop) (Q : Exit → Act → World → Prop), (∀ v w', Ext w w' → r.at w.heap.size w'.heap.size w' v → (fr = true → ∀ b, ownB v = some b → w.heap.size ≤ b ∧ b < w'.heap.size) → K (a.put o.dst v) w') → o.wp P a w K Q)

def wpFlow (P : Program) (ops : Array Oper) (w1 : World) (n : Nm) (F : List (Nat × RL) → List Nat → Prop) : List (Nat × RL) → List Nat → List Oper → Prop
  | L, A, [] => F L A
  | L, A, o :: rest => ∃ d r fr, o.dst = some d ∧ d < n.n ∧ r.stab ∧ (∀ a w, Ext w1 w → a.tmps.size = n.n → a.defers = n.ds → FrOn (o.looksAt ops) L a w → StepF P ops o fr r a w) ∧
      wpFlow P ops w1 n F ((d, r) :: L) (if fr = true then d :: A else A) rest

/-! ### the order does not matter -/
def dstOf (ops : Array Oper) (j : Nat) : Option Nat := (ops[j]?).bind (·.dst)
/-- Each operation of the head has a slot of its own, looks at slots of operations that it waits for or that wait for it, and waits for elder ones. -/
def flowB (ops : Array Oper) (m : Nat) : Bool :=
  (List.range m).all fun k => match ops[k]? with
    | none => false
    | some o => (o.after.all fun e => !Region.binds .any e || Nat.blt e.on k) &&
      match o.dst with
      | none => false
      | some d => (List.range m).all fun j => Nat.beq j k || match dstOf ops j with
        | none => false
        | some dj => !Nat.beq dj d && (!(o.looksAt ops).contains dj || (bif Nat.blt j k then Region.waitsFor .any ops k j else Region.waitsFor .any ops j k))

section
variable {P : Program} {ops : Array Oper} {w1 : World} {n : Nm} {m : Nat}

structure FlowOk (ops : Array Oper) (m : Nat) : Prop where
  op : ∀ k, k < m → ∃ o d, ops[k]? = some o ∧ o.dst = some d ∧ (∀ e ∈ o.after, Region.binds .any e = true → e.on < k)
  one : ∀ j k, j < m → k < m → j ≠ k → ∀ d, dstOf ops j = some d → dstOf ops k ≠ some d
  dep : ∀ j k o d, j < k → k < m → ops[k]? = some o → dstOf ops j = some d → d ∈ o.looksAt ops → Region.waitsFor .any ops k j = true
  anti : ∀ j k o d, k < j → j < m → ops[k]? = some o → dstOf ops j = some d → d ∈ o.looksAt ops → Region.waitsFor .any ops j k = true

theorem flowB_ok (h : flowB ops m = true) : FlowOk ops m := by
  have key : ∀ k, k < m → ∃ o d, ops[k]? = some o ∧ o.dst = some d ∧ (∀ e ∈ o.after, Region.binds .any e = true → e.on < k) ∧
      ∀ j, j < m → j ≠ k → ∃ dj, dstOf ops j = some dj ∧ dj ≠ d ∧ (dj ∈ o.looksAt ops → (j < k → Region.waitsFor .any ops k j = true) ∧ (¬ j < k → Region.waitsFor .any ops j k = true)) := by
    intro k hk
    have h1 := List.all_eq_true.1 h k (List.mem_range.2 hk)
    cases ho : ops[k]? with
    | none => rw [ho] at h1; simp at h1
    | some o =>
      rw [ho] at h1
      simp only [Bool.and_eq_true] at h1
      obtain ⟨h1, h2⟩ := h1
      cases hd : o.dst with
      | none => rw [hd] at h2; simp at h2
      | some d =>
        rw [hd] at h2
        refine ⟨o, d, rfl, hd, fun e he hb => ?_, fun j hj hne => ?_⟩
        · have := Array.all_eq_true_iff_forall_mem.1 h1 e he
          simpa [hb, Nat.blt_eq] using this
        · have h3 := List.all_eq_true.1 h2 j (List.mem_range.2 hj)
          have hbeq : Nat.beq j k = false := by
            cases hb : Nat.beq j k with
            | false => rfl
            | true => exact absurd (Nat.eq_of_beq_eq_true hb) hne
          rw [hbeq] at h3
          cases hdj : dstOf ops j with
          | none => rw [hdj] at h3; simp at h3
          | some dj =>
            rw [hdj] at h3
            simp only [Bool.false_or, Bool.and_eq_true, Bool.not_eq_true', Bool.or_eq_true] at h3
            obtain ⟨h4, h5⟩ := h3
            refine ⟨dj, rfl, fun e => ?_, fun hm => ?_⟩
            · subst e
              rw [Nat.beq_refl] at h4
              cases h4
            · rcases h5 with h5 | h5
              · rw [← Bool.not_eq_true, List.contains_iff_mem] at h5
                exact absurd hm h5
              · refine ⟨fun hjk => ?_, fun hjk => ?_⟩
                · rw [show Nat.blt j k = true by simpa [Nat.blt_eq] using hjk] at h5
                  exact h5
                · rw [show Nat.blt j k = false by
                    cases hb : Nat.blt j k with
                    | false => rfl
                    | true => exact absurd (by simpa [Nat.blt_eq] using hb) hjk] at h5
                  exact h5
  refine ⟨fun k hk => ?_, fun j k hj hk hne d hdj hdk => ?_, fun j k o d hjk hk ho hd hm => ?_, fun j k o d hkj hj ho hd hm => ?_⟩
  · obtain ⟨o, d, h1, h2, h3, _⟩ := key k hk
    exact ⟨o, d, h1, h2, h3⟩
  · obtain ⟨o, d', h1, h2, _, h4⟩ := key k hk
    obtain ⟨dj, h5, h6, _⟩ := h4 j hj hne
    have : dstOf ops k = some d' := by simp [dstOf, h1, h2]
    rw [this] at hdk
    rw [h5] at hdj
    simp only [Option.some.injEq] at hdk hdj
    exact h6 (hdj.trans hdk.symm)
  · obtain ⟨o', d', h1, h2, _, h4⟩ := key k hk
    obtain rfl : o' = o := Option.some.inj (h1.symm.trans ho)
    obtain ⟨dj, h5, _, h7⟩ := h4 j (by omega) (by omega)
    obtain rfl : dj = d := Option.some.inj (h5.symm.trans hd)
    exact (h7 hm).1 hjk
  · obtain ⟨o', d', h1, h2, _, h4⟩ := key k (by omega)
    obtain rfl : o' = o := Option.some.inj (h1.symm.trans ho)
    obtain ⟨dj, h5, _, h7⟩ := h4 j hj (by omega)
    obtain rfl : dj = d := Option.some.inj (h5.symm.trans hd)
    exact (h7 hm).2 (by omega)

/-- What the text has told of the first operations. -/
def ctx (L : List (Nat × RL)) : List (Nat × RL × Bool) → List (Nat × RL)
  | [] => L
  | (d, r, _) :: T => ctx ((d, r) :: L) T
def ctxA (A : List Nat) : List (Nat × RL × Bool) → List Nat
  | [] => A
  | (d, _, fr) :: T => ctxA (if fr = true then d :: A else A) T

theorem flow_ex {F : List (Nat × RL) → List Nat → Prop} : ∀ (l : List Oper) (L : List (Nat × RL)) (A : List Nat), wpFlow P ops w1 n F L A l →
    ∃ T : List (Nat × RL × Bool), T.length = l.length ∧ (∀ k o, l[k]? = some o → ∃ d r fr, T[k]? = some (d, r, fr) ∧ o.dst = some d ∧ d < n.n ∧ r.stab ∧
      ∀ a w, Ext w1 w → a.tmps.size = n.n → a.defers = n.ds → FrOn (o.looksAt ops) (ctx L (T.take k)) a w → StepF P ops o fr r a w) ∧ F (ctx L T) (ctxA A T)
  | [], L, A, h => ⟨[], rfl, fun k o h => by simp at h, h⟩
  | o :: l, L, A, ⟨d, r, fr, h1, h2, h3, h4, h5⟩ => by
    obtain ⟨T, t1, t2, t3⟩ := flow_ex l _ _ h5
    refine ⟨(d, r, fr) :: T, by simp [t1], fun k o' ho => ?_, t3⟩
    cases k with
    | zero =>
      simp only [List.getElem?_cons_zero, Option.some.injEq] at ho
      subst ho
      exact ⟨d, r, fr, by simp, h1, h2, h3, h4⟩
    | succ k =>
      simp only [List.getElem?_cons_succ] at ho
      obtain ⟨d', r', fr', e1, e2, e3, e4, e5⟩ := t2 k o' ho
      exact ⟨d', r', fr', by simpa using e1, e2, e3, e4, by simpa [ctx] using e5⟩

theorem lookL_ctx : ∀ (T : List (Nat × RL × Bool)) (L : List (Nat × RL)) (s : Nat) (r : RL), lookL (ctx L T) s = some r →
    (∃ (j : Nat) (fr : Bool), T[j]? = some (s, r, fr)) ∨ ((∀ (j : Nat) d r' fr, T[j]? = some (d, r', fr) → d ≠ s) ∧ lookL L s = some r)
  | [], L, s, r, h => .inr ⟨fun j d r' fr e => by simp at e, h⟩
  | (d, r0, f0) :: T, L, s, r, h => by
    rcases lookL_ctx T ((d, r0) :: L) s r h with ⟨j, fr, hj⟩ | ⟨h1, h2⟩
    · exact .inl ⟨j + 1, fr, by simpa using hj⟩
    · simp only [lookL] at h2
      cases hb : Nat.beq d s with
      | true =>
        rw [hb] at h2
        simp only [cond_true, Option.some.injEq] at h2
        have := Nat.eq_of_beq_eq_true hb
        subst this
        subst h2
        exact .inl ⟨0, f0, by simp⟩
      | false =>
        rw [hb] at h2
        refine .inr ⟨fun j d' r' fr e => ?_, h2⟩
        cases j with
        | zero =>
          simp only [List.getElem?_cons_zero, Option.some.injEq, Prod.mk.injEq] at e
          obtain ⟨rfl, _⟩ := e
          intro e2
          subst e2
          rw [Nat.beq_refl] at hb
          cases hb
        | succ j => exact h1 j d' r' fr (by simpa using e)
theorem mem_ctxA : ∀ (T : List (Nat × RL × Bool)) (A : List Nat) (s : Nat), s ∈ ctxA A T → s ∈ A ∨ ∃ (j : Nat) (r : RL), T[j]? = some (s, r, true)
  | [], A, s, h => .inl h
  | (d, r, fr) :: T, A, s, h => by
    rcases mem_ctxA T _ s h with h1 | ⟨j, r', hj⟩
    · cases fr with
      | false => exact .inl (by simpa using h1)
      | true =>
        simp only [if_true, List.mem_cons] at h1
        rcases h1 with rfl | h1
        · exact .inr ⟨0, r, by simp⟩
        · exact .inl h1
    · exact .inr ⟨j + 1, r', by simpa using hj⟩

def cnt (listed : Array Bool) : Nat → Nat
  | 0 => 0
  | k + 1 => cnt listed k + (if listed.getD k false = true then 0 else 1)
theorem cnt_out {listed : Array Bool} {i : Nat} : ∀ k, k ≤ i → cnt (listed.setIfInBounds i true) k = cnt listed k
  | 0, _ => rfl
  | k + 1, h => by
    simp only [cnt]
    rw [cnt_out k (by omega), getD_set_ne false (by omega)]
theorem cnt_set {listed : Array Bool} {i : Nat} (hi : i < listed.size) (hl : listed.getD i false = false) : ∀ k, i < k → cnt (listed.setIfInBounds i true) k + 1 = cnt listed k
  | 0, h => by omega
  | k + 1, h => by
    simp only [cnt]
    by_cases hk : i = k
    · subst hk
      rw [cnt_out i (Nat.le_refl _), hl]
      have : (listed.setIfInBounds i true).getD i false = true := by simp [hi]
      rw [this]
      simp
    · rw [getD_set_ne false hk]
      have := cnt_set hi hl k (by omega)
      omega
theorem cnt_zero {listed : Array Bool} : ∀ k, cnt listed k = 0 → ∀ i, i < k → listed.getD i false = true
  | 0, _, i, h => by omega
  | k + 1, h, i, hi => by
    simp only [cnt] at h
    by_cases hk : i = k
    · subst hk
      by_cases hb : listed.getD i false = true
      · exact hb
      · rw [if_neg hb] at h; omega
    · exact cnt_zero k (by omega) i (by omega)
theorem cnt_some {listed : Array Bool} : ∀ k, 0 < cnt listed k → ∃ i, i < k ∧ listed.getD i false = false ∧ ∀ j, j < i → listed.getD j false = true
  | 0, h => by simp [cnt] at h
  | k + 1, h => by
    by_cases h0 : 0 < cnt listed k
    · obtain ⟨i, h1, h2, h3⟩ := cnt_some k h0
      exact ⟨i, by omega, h2, h3⟩
    · refine ⟨k, by omega, ?_, cnt_zero k (by omega)⟩
      simp only [cnt] at h
      cases hb : listed.getD k false with
      | false => rfl
      | true => rw [if_pos hb] at h; omega

theorem getD_put_self {a : Act} {d : Nat} {v : Value} (h : d < a.tmps.size) : (a.put (some d) v).tmps.getD d undef = v := by
  simp [Act.put, Array.getD_eq_getD_getElem?, h]
theorem getD_put_ne {a : Act} {d s : Nat} {v : Value} (h : d ≠ s) : (a.put (some d) v).tmps.getD s undef = a.tmps.getD s undef := by
  simp [Act.put, Array.getD_eq_getD_getElem?, h]

/-- On the way: some operations are done. -/
structure Way (ops : Array Oper) (m : Nat) (n : Nm) (w1 : World) (T : List (Nat × RL × Bool)) (a0 : Act) (listed : Array Bool) (a : Act) (w : World) : Prop where
  inv : HeadInv .any ops m listed
  ext : Ext w1 w
  size : a.tmps.size = n.n
  defers : a.defers = n.ds
  old : ∀ s, (∀ j, j < m → listed.getD j false = true → dstOf ops j ≠ some s) → a.tmps.getD s undef = a0.tmps.getD s undef
  new : ∀ (j d : Nat) (r : RL) (fr : Bool), T[j]? = some (d, r, fr) → listed.getD j false = true → r.holds w (a.tmps.getD d undef)
  lo : ∀ (j d : Nat) (r : RL), T[j]? = some (d, r, true) → listed.getD j false = true → ∀ b, ownB (a.tmps.getD d undef) = some b → w1.heap.size ≤ b ∧ b < w.heap.size
  ne : ∀ (j d : Nat) (r : RL) (i d' : Nat) (r' : RL), T[j]? = some (d, r, true) → T[i]? = some (d', r', true) → j ≠ i → listed.getD j false = true → listed.getD i false = true →
    ∀ b, ownB (a.tmps.getD d undef) = some b → ownB (a.tmps.getD d' undef) ≠ some b
  iv : ∀ (j d : Nat) (R : Nat → Nat → World → Value → Prop) (fr : Bool), T[j]? = some (d, .ivl R, fr) → listed.getD j false = true → ∃ lo hi, w1.heap.size ≤ lo ∧ hi ≤ w.heap.size ∧ R lo hi w (a.tmps.getD d undef) ∧
    ∀ (i d' : Nat) (r' : RL), T[i]? = some (d', r', true) → listed.getD i false = true → j ≠ i → ∀ b, ownB (a.tmps.getD d' undef) = some b → b < lo ∨ hi ≤ b

theorem Way.next {T : List (Nat × RL × Bool)} {a0 : Act} (ok : FlowOk ops m) (hmn : m ≤ ops.size) (dT : ∀ (j d : Nat) (r : RL) (fr : Bool), T[j]? = some (d, r, fr) → j < m ∧ dstOf ops j = some d)
    (sT : ∀ (j d : Nat) (r : RL) (fr : Bool), T[j]? = some (d, r, fr) → r.stab)
    {listed : Array Bool} {a : Act} {w : World} (Wy : Way ops m n w1 T a0 listed a w) {i : Nat} {oi : Oper} {d : Nat} {r : RL} {fr : Bool} (hi : i ∈ Region.ready .any ops listed) (him : i < m) (hoi : ops[i]? = some oi) (hd : oi.dst = some d) (hdn : d < n.n) (hTi : T[i]? = some (d, r, fr)) :
    ∀ v w', Ext w w' → r.at w.heap.size w'.heap.size w' v → (fr = true → ∀ b, ownB v = some b → w.heap.size ≤ b ∧ b < w'.heap.size) → Way ops m n w1 T a0 (listed.setIfInBounds i true) (a.put oi.dst v) w' := by
  have hdi : dstOf ops i = some d := by simp [dstOf, hoi, hd]
  have hlt : i < listed.size := by rw [Wy.inv.size]; omega
  have hself : (listed.setIfInBounds i true).getD i false = true := by simp [hlt]
  intro v w' X hv hfrv
  rw [hd]
  have oth : ∀ (j d' : Nat) (r' : RL) (fr' : Bool), T[j]? = some (d', r', fr') → j ≠ i → (a.put (some d) v).tmps.getD d' undef = a.tmps.getD d' undef := by
    intro j d' r' fr' hj hji
    obtain ⟨hjm, hdj⟩ := dT j d' r' fr' hj
    exact getD_put_ne fun e => by
      subst e
      exact ok.one j i hjm him hji _ hdj hdi
  have lst : ∀ j, (listed.setIfInBounds i true).getD j false = true → j ≠ i → listed.getD j false = true := fun j hj hji => by
    rwa [getD_set_ne false (Ne.symm hji)] at hj
  have selfv : (a.put (some d) v).tmps.getD d undef = v := getD_put_self (by rw [Wy.size]; exact hdn)
  have mineT : ∀ (d' : Nat) (r' : RL) (fr' : Bool), T[i]? = some (d', r', fr') → d' = d ∧ r' = r ∧ fr' = fr := fun d' r' fr' h => by
    rw [hTi] at h
    simp only [Option.some.injEq, Prod.mk.injEq] at h
    exact ⟨h.1.symm, h.2.1.symm, h.2.2.symm⟩
  refine ⟨Wy.inv.set hi him, Wy.ext.trans X, by simp [Act.put, Wy.size], by simp [Act.put, Wy.defers], fun s hs => ?_, fun j d' r' fr' hj hlj => ?_, fun j d' r' hj hlj b hb => ?_, fun j d' r' i' d'' r'' hj hi' hne hlj hli b hb => ?_, fun j d' R fr' hj hlj => ?_⟩
  · have hne : d ≠ s := fun e => by
      subst e
      exact hs i him hself hdi
    rw [getD_put_ne hne]
    exact Wy.old s fun j hj hlj => hs j hj (getD_set_true hlj)
  · by_cases hji : j = i
    · subst hji
      obtain ⟨rfl, rfl, rfl⟩ := mineT _ _ _ hj
      rw [selfv]
      exact hv.holds
    · rw [oth j d' r' fr' hj hji]
      have hs : r'.stab := sT j d' r' fr' hj
      exact hs.on X (Wy.new j d' r' fr' hj (lst j hlj hji))
  · by_cases hji : j = i
    · subst hji
      obtain ⟨rfl, rfl, e⟩ := mineT _ _ _ hj
      rw [selfv] at hb
      have := hfrv e.symm b hb
      have := Wy.ext.size
      omega
    · rw [oth j d' r' true hj hji] at hb
      have h1 := Wy.lo j d' r' hj (lst j hlj hji) b hb
      have := X.size
      omega
  · by_cases hji : j = i
    · subst hji
      obtain ⟨rfl, rfl, e⟩ := mineT _ _ _ hj
      rw [selfv] at hb
      have h1 := hfrv e.symm b hb
      rw [oth i' d'' r'' true hi' (Ne.symm hne)]
      intro hb2
      have := Wy.lo i' d'' r'' hi' (lst i' hli (Ne.symm hne)) b hb2
      omega
    · rw [oth j d' r' true hj hji] at hb
      by_cases hii : i' = i
      · subst hii
        obtain ⟨rfl, rfl, e⟩ := mineT _ _ _ hi'
        rw [selfv]
        intro hb2
        have h1 := hfrv e.symm b hb2
        have := Wy.lo j d' r' hj (lst j hlj hji) b hb
        omega
      · rw [oth i' d'' r'' true hi' hii]
        exact Wy.ne j d' r' i' d'' r'' hj hi' hne (lst j hlj hji) (lst i' hli hii) b hb
  · by_cases hji : j = i
    · subst hji
      obtain ⟨rfl, rfl, rfl⟩ := mineT _ _ _ hj
      refine ⟨w.heap.size, w'.heap.size, Wy.ext.size, Nat.le_refl _, by rw [selfv]; exact hv, fun i' d'' r'' hi' hli hne b hb => ?_⟩
      rw [oth i' d'' r'' true hi' (Ne.symm hne)] at hb
      exact .inl (Wy.lo i' d'' r'' hi' (lst i' hli (Ne.symm hne)) b hb).2
    · obtain ⟨lo, hi2, h1, h2, h3, h4⟩ := Wy.iv j d' R fr' hj (lst j hlj hji)
      have hs := sT j d' _ fr' hj
      refine ⟨lo, hi2, h1, Nat.le_trans h2 X.size, by rw [oth j d' _ fr' hj hji]; exact hs lo hi2 _ _ _ X h3, fun i' d'' r'' hi' hli hne b hb => ?_⟩
      by_cases hii : i' = i
      · subst hii
        obtain ⟨rfl, rfl, e⟩ := mineT _ _ _ hi'
        rw [selfv] at hb
        have := (hfrv e.symm b hb).1
        exact .inr (by omega)
      · rw [oth i' d'' r'' true hi' hii] at hb
        exact h4 i' d'' r'' hi' (lst i' hli hii) hne b hb

theorem wpAny_more {Q : Exit → Act → World → Prop} : ∀ (f : Nat) (listed : Array Bool) (a : Act) (w : World), wpAny P .any ops Q f listed a w → wpAny P .any ops Q (f + 1) listed a w
  | 0, listed, a, w, h => ⟨fun _ => h.2, fun i hi => by rw [h.1] at hi; cases hi⟩
  | f + 1, listed, a, w, h => ⟨h.1, fun i hi => wpOp_mono (fun a w => wpAny_more f _ a w) (h.2 i hi)⟩
theorem wpAny_more' {Q : Exit → Act → World → Prop} {listed : Array Bool} {a : Act} {w : World} {f : Nat} (h : wpAny P .any ops Q f listed a w) : ∀ k, wpAny P .any ops Q (f + k) listed a w
  | 0 => h
  | k + 1 => wpAny_more _ _ _ _ (wpAny_more' h k)

theorem wpAny_way {g : Nat} {Q : Exit → Act → World → Prop} {T : List (Nat × RL × Bool)} {L0 : List (Nat × RL)} {a0 : Act} (ok : FlowOk ops m) (hT : T.length = m) (hmn : m ≤ ops.size)
    (hw : ∀ listed, HeadInv .any ops m listed → ∀ i, i < m → listed.getD i true = false → ∀ t, m ≤ t → t ∉ Region.ready .any ops listed)
    (hL0 : ∀ s r, lookL L0 s = some r → r.stab ∧ r.holds w1 (a0.tmps.getD s undef))
    (hstep : ∀ k o, k < m → ops[k]? = some o → ∃ d r fr, T[k]? = some (d, r, fr) ∧ o.dst = some d ∧ d < n.n ∧ r.stab ∧
      ∀ a w, Ext w1 w → a.tmps.size = n.n → a.defers = n.ds → FrOn (o.looksAt ops) (ctx L0 (T.take k)) a w → StepF P ops o fr r a w)
    (hend : ∀ listed a w, HeadInv .any ops m listed → (∀ i, i < m → listed.getD i false = true) → Way ops m n w1 T a0 listed a w → wpAny P .any ops Q g listed a w) :
    ∀ (f : Nat) (listed : Array Bool) (a : Act) (w : World), cnt listed m = f → Way ops m n w1 T a0 listed a w → wpAny P .any ops Q (f + g) listed a w := by
  have dT : ∀ (j d : Nat) (r : RL) (fr : Bool), T[j]? = some (d, r, fr) → j < m ∧ dstOf ops j = some d := by
    intro j d r fr h
    have hj : j < m := by rw [← hT]; exact (List.getElem?_eq_some_iff.1 h).1
    obtain ⟨o, d', h1, h2, _⟩ := ok.op j hj
    obtain ⟨d'', r'', fr'', h3, h4, _⟩ := hstep j o hj h1
    rw [h3] at h
    simp only [Option.some.injEq, Prod.mk.injEq] at h
    obtain ⟨rfl, _⟩ := h
    exact ⟨hj, by simp [dstOf, h1, h4]⟩
  have sT : ∀ (j d : Nat) (r : RL) (fr : Bool), T[j]? = some (d, r, fr) → r.stab := by
    intro j d r fr h
    obtain ⟨hj, _⟩ := dT j d r fr h
    obtain ⟨o, d', h1, h2, _⟩ := ok.op j hj
    obtain ⟨d'', r'', fr'', h3, h4, _, h5, _⟩ := hstep j o hj h1
    rw [h3] at h
    simp only [Option.some.injEq, Prod.mk.injEq] at h
    rw [← h.2.1]
    exact h5
  intro f
  induction f with
  | zero =>
    intro listed a w hc Wy
    rw [Nat.zero_add]
    exact hend listed a w Wy.inv (cnt_zero m hc) Wy
  | succ f ih =>
    intro listed a w hc Wy
    rw [show f + 1 + g = (f + g) + 1 by omega]
    obtain ⟨i0, hi0, hl0, hbefore⟩ := cnt_some m (show 0 < cnt listed m by omega)
    have hun0 : listed.getD i0 true = false := getD_in (by rw [Wy.inv.size]; omega) hl0
    have hr0 : i0 ∈ Region.ready .any ops listed := by
      obtain ⟨o, d, h1, h2, h3⟩ := ok.op i0 hi0
      exact mem_ready.2 ⟨hun0, o, h1, fun e he hb => hbefore _ (h3 e he hb)⟩
    refine ⟨fun h => (by rw [h] at hr0; cases hr0), fun i hi => ?_⟩
    have him : i < m := by
      rcases Nat.lt_or_ge i m with h | h
      · exact h
      · exact absurd hi (hw listed Wy.inv i0 hi0 hun0 i h)
    obtain ⟨hiun, oi, hoi, hall⟩ := mem_ready.1 hi
    have hil : listed.getD i false = false := getD_both hiun
    obtain ⟨d, r, fr, hTi, hd, hdn, hst, hok⟩ := hstep i oi him hoi
    have hdi : dstOf ops i = some d := by simp [dstOf, hoi, hd]
    have hfr : FrOn (oi.looksAt ops) (ctx L0 (T.take i)) a w := by
      intro s hs r' hr'
      rcases lookL_ctx _ _ _ _ hr' with ⟨j, fr', hj⟩ | ⟨h1, h2⟩
      · have hji : j < i := by
          have := (List.getElem?_eq_some_iff.1 hj).1
          simp only [List.length_take] at this
          omega
        have hj' : T[j]? = some (s, r', fr') := by rw [List.getElem?_take, if_pos hji] at hj; exact hj
        obtain ⟨hjm, hdj⟩ := dT j s r' fr' hj'
        have hwait := ok.dep j i oi s hji him hoi hdj hs
        obtain ⟨o', ho', e, he, hb, hon⟩ := Region.waitsFor_spec hwait
        obtain rfl : o' = oi := Option.some.inj (ho'.symm.trans hoi)
        have hlj : listed.getD j false = true := by rw [← hon]; exact hall e he hb
        exact Wy.new j s r' fr' hj' hlj
      · obtain ⟨st, ho⟩ := hL0 s r' h2
        have : a.tmps.getD s undef = a0.tmps.getD s undef := by
          refine Wy.old s fun j hj hlj hdj => ?_
          rcases Nat.lt_trichotomy j i with hlt | heq | hgt
          · obtain ⟨oj, dj, h3, h4, _⟩ := ok.op j hj
            obtain ⟨d3, r3, fr3, h5, h6, _⟩ := hstep j oj hj h3
            have : d3 = s := by
              have : dstOf ops j = some d3 := by simp [dstOf, h3, h6]
              rw [this] at hdj
              exact Option.some.inj hdj
            subst this
            exact h1 j d3 r3 fr3 (by rw [List.getElem?_take, if_pos hlt]; exact h5) rfl
          · subst heq
            rw [hil] at hlj
            cases hlj
          · have hwait := ok.anti j i oi s hgt hj hoi hdj hs
            obtain ⟨o', ho', e, he, hb, hon⟩ := Region.waitsFor_spec hwait
            have := Wy.inv.closed j o' ho' hlj e he hb
            rw [hon, hil] at this
            cases this
        rw [this]
        exact st.on Wy.ext ho
    have hlt : i < listed.size := by rw [Wy.inv.size]; omega
    have hself : (listed.setIfInBounds i true).getD i false = true := by simp [hlt]
    have next := Way.next ok hmn dT sT Wy hi him hoi hd hdn hTi
    have hc' : cnt (listed.setIfInBounds i true) m = f := by
      have := cnt_set hlt hil m him
      omega
    unfold wpOp
    simp only [hoi]
    rcases hok a w Wy.ext Wy.size Wy.defers hfr with ⟨hwant, hv⟩ | ⟨hwant, hK⟩
    · rw [if_neg (by rw [hwant]; exact Bool.false_ne_true)]
      exact ih _ _ _ hc' (next undef w (Ext.refl _) hv (fun _ b hb => by simp [ownB, undef] at hb))
    · rw [if_pos hwant]
      left
      exact hK _ _ fun v w' X hv hf => ih _ _ _ hc' (next v w' X hv hf)

theorem flow_region {Q : Exit → Act → World → Prop} {a : Act} {w : World} {l : List (Nat × Value)} {ol : List Oper} (mm : Nat) (g : Nat) (hg : ol.length ≤ mm + g) (hmm : mm ≤ ol.length) (h : Fr n l a)
    (hB : flowB ol.toArray mm = true)
    (hw : ∀ listed, HeadInv .any ol.toArray mm listed → ∀ i, i < mm → listed.getD i true = false → ∀ t, mm ≤ t → t ∉ Region.ready .any ol.toArray listed)
    (G : Act → World → Prop) (hend : ∀ listed a w, HeadInv .any ol.toArray mm listed → (∀ i, i < mm → listed.getD i false = true) → G a w → wpAny P .any ol.toArray Q g listed a w)
    (H : wpFlow P ol.toArray w n (fun L A => ∀ a' w', Ext w w' → FrR n L a' w' → Fresh w L A a' w' → G a' w') (eqs l) [] (ol.take mm)) :
    wpAny P .any ol.toArray Q (mm + g) (Array.replicate ol.toArray.size false) a { w with drawn := w.drawn + 1 } := by
  have ok := flowB_ok hB
  obtain ⟨T, t1, t2, t3⟩ := flow_ex _ _ _ H
  have htl : (ol.take mm).length = mm := by simp; omega
  have inv0 : HeadInv .any ol.toArray mm (Array.replicate ol.toArray.size false) :=
    ⟨by simp, fun j oj _ hl => (by rw [getD_replicate_false] at hl; cases hl), fun t _ ht => getD_in (by simpa using ht) (getD_replicate_false _ _)⟩
  have hstep : ∀ k o, k < mm → ol.toArray[k]? = some o → ∃ d r fr, T[k]? = some (d, r, fr) ∧ o.dst = some d ∧ d < n.n ∧ r.stab ∧
      ∀ a w', Ext w w' → a.tmps.size = n.n → a.defers = n.ds → FrOn (o.looksAt ol.toArray) (ctx (eqs l) (T.take k)) a w' → StepF P ol.toArray o fr r a w' := fun k o hk ho =>
    t2 k o (by rw [List.getElem?_take, if_pos hk]; simpa using ho)
  have nol : ∀ k, (Array.replicate ol.toArray.size false).getD k false = true → False := fun k hk => by rw [getD_replicate_false] at hk; cases hk
  have hc0 : ∀ k, cnt (Array.replicate ol.toArray.size false) k = k := by
    intro k
    induction k with
    | zero => rfl
    | succ k ih => simp only [cnt, ih, getD_replicate_false]; simp
  refine wpAny_way (T := T) (L0 := eqs l) (a0 := a) (w1 := w) ok (by rw [t1, htl]) (by simpa using hmm) hw (fun s r hr => ?_) hstep (fun listed a' w' hi hl Wy => ?_) mm _ a _ (hc0 mm) ?_
  · obtain ⟨v, rfl, hv⟩ := lookL_eqs l s r hr
    exact ⟨trivial, h.has _ _ hv⟩
  · refine hend listed a' w' hi hl (t3 a' w' Wy.ext ⟨Wy.size, Wy.defers, fun s r hr => ?_⟩ ⟨fun s R hr => ?_, fun s hs b hb => ?_, fun s hs t ht hne b hb => ?_⟩)
    · rcases lookL_ctx _ _ _ _ hr with ⟨j, fr, hj⟩ | ⟨h1, h2⟩
      · have hjm : j < mm := by rw [← htl, ← t1]; exact (List.getElem?_eq_some_iff.1 hj).1
        exact Wy.new j s r fr hj (hl j hjm)
      · obtain ⟨v, rfl, hv⟩ := lookL_eqs l s r h2
        show a'.tmps.getD s undef = v
        rw [Wy.old s fun j hj hlj hdj => ?_]
        · exact h.has _ _ hv
        · obtain ⟨oj, dj, h3, h4, _⟩ := ok.op j hj
          obtain ⟨d3, r3, fr3, h5, h6, _⟩ := hstep j oj hj h3
          have : dstOf ol.toArray j = some d3 := by simp only [dstOf, h3, Option.bind_some, h6]
          rw [this] at hdj
          exact h1 j d3 r3 fr3 h5 (Option.some.inj hdj)
    · rcases lookL_ctx _ _ _ _ hr with ⟨j, fr, hj⟩ | ⟨h1, h2⟩
      · have hjm : j < mm := by rw [← htl, ← t1]; exact (List.getElem?_eq_some_iff.1 hj).1
        obtain ⟨lo, hi2, k1, k2, k3, k4⟩ := Wy.iv j s R fr hj (hl j hjm)
        refine ⟨lo, hi2, k1, k3, fun t ht hts b hb => ?_⟩
        rcases mem_ctxA _ _ _ ht with ht | ⟨i, r', hi'⟩
        · cases ht
        · have him : i < mm := by rw [← htl, ← t1]; exact (List.getElem?_eq_some_iff.1 hi').1
          by_cases hji : j = i
          · subst hji
            rw [hj] at hi'
            simp only [Option.some.injEq, Prod.mk.injEq] at hi'
            exact absurd hi'.1.symm hts
          · exact k4 i t r' hi' (hl i him) hji b hb
      · obtain ⟨v, hv, _⟩ := lookL_eqs l s _ h2
        cases hv
    · rcases mem_ctxA _ _ _ hs with hs | ⟨j, r, hj⟩
      · cases hs
      · have hjm : j < mm := by rw [← htl, ← t1]; exact (List.getElem?_eq_some_iff.1 hj).1
        exact Wy.lo j s r hj (hl j hjm) b hb
    · rcases mem_ctxA _ _ _ hs with hs | ⟨j, r, hj⟩
      · cases hs
      · rcases mem_ctxA _ _ _ ht with ht | ⟨i, r', hi'⟩
        · cases ht
        · have hjm : j < mm := by rw [← htl, ← t1]; exact (List.getElem?_eq_some_iff.1 hj).1
          have him : i < mm := by rw [← htl, ← t1]; exact (List.getElem?_eq_some_iff.1 hi').1
          refine Wy.ne j s r i t r' hj hi' (fun e => ?_) (hl j hjm) (hl i him) b hb
          subst e
          rw [hj] at hi'
          simp only [Option.some.injEq, Prod.mk.injEq] at hi'
          exact hne hi'.1
  · exact ⟨inv0, Ext.drew w, h.size, h.defers, fun _ _ => rfl, fun j d r fr _ hl => (nol j hl).elim, fun j d r _ hl => (nol j hl).elim, fun j d r i d' r' _ _ _ hl => (nol j hl).elim, fun j d R fr _ hl => (nol j hl).elim⟩

/-- A region that draws its order, all of whose operations grow the memory at most. -/
theorem wp_flow {Q : Exit → Act → World → Prop} {a : Act} {w : World} {l : List (Nat × Value)} {id : Nat} {ol : List Oper} (h : Fr n l a) (hm : P.follows .mixedOrders = true) (hB : flowB ol.toArray ol.length = true)
    (H : wpFlow P ol.toArray w n (fun L A => ∀ a' w', Ext w w' → FrR n L a' w' → Fresh w L A a' w' → Q .normal a' w') (eqs l) [] ol) : (Code.region id ol.toArray true).wp P Q a w := by
  refine wp_region_any hm ?_
  have := flow_region (P := P) (Q := Q) (g := 0) ol.length (by omega) (Nat.le_refl _) h hB (fun listed _ i _ _ t ht hr => by
      obtain ⟨_, o, ho, _⟩ := mem_ready.1 hr
      have := (Array.getElem?_eq_some_iff.1 ho).1
      simp at this
      omega) (fun a' w' => Q .normal a' w') (fun listed a' w' hi hl hq => ⟨?_, hq⟩) (by rw [List.take_length]; exact H)
  · simpa using this
  · cases hr : Region.ready .any ol.toArray listed with
    | nil => rfl
    | cons t ts =>
      exfalso
      have ht : t ∈ Region.ready .any ol.toArray listed := by rw [hr]; simp
      obtain ⟨h1, o, ho, _⟩ := mem_ready.1 ht
      have hlt := (Array.getElem?_eq_some_iff.1 ho).1
      have h2 := hl t (by simpa using hlt)
      have := getD_both h1
      rw [h2] at this
      cases this

def flowTB (ops : Array Oper) (m : Nat) : Bool := flowB ops m && decide (m < ops.size) && Region.sinkB .any ops m && Region.chainB .any ops m && (List.range ops.size).all fun t => (decide (t < m) || (match ops[t]? with | some o => o.after.all fun e => !Region.binds .any e || Nat.blt e.on t | none => false))

theorem ready_tail {k : Nat} {listed : Array Bool} (hc : Region.chainB .any ops m = true) (hback : ∀ t, m ≤ t → t < ops.size → ∀ o, ops[t]? = some o → ∀ e ∈ o.after, Region.binds .any e = true → e.on < t)
    (hmk : m ≤ k) (hk : k < ops.size) (h1 : ∀ i, i < k → listed.getD i false = true) (h2 : ∀ t, k ≤ t → t < ops.size → listed.getD t true = false) : Region.ready .any ops listed = [k] := by
  have hmem : ∀ t, t ∈ Region.ready .any ops listed ↔ t = k := by
    intro t
    rw [mem_ready]
    constructor
    · rintro ⟨hun, o, ho, hall⟩
      have htlt : t < ops.size := (Array.getElem?_eq_some_iff.1 ho).1
      rcases Nat.lt_trichotomy t k with hlt | heq | hgt
      · have := h1 t hlt
        have h3 := getD_both hun
        rw [this] at h3
        cases h3
      · exact heq
      · have h3 := List.all_eq_true.1 hc t (List.mem_range.2 htlt)
        simp only [Bool.or_eq_true, decide_eq_true_eq] at h3
        rcases h3 with h3 | h3
        · omega
        · obtain ⟨o', ho', e, he, hb, hon⟩ := Region.waitsFor_spec h3
          obtain rfl : o' = o := Option.some.inj (ho'.symm.trans ho)
          have h4 := hall e he hb
          rw [hon, getD_both (h2 (t - 1) (by omega) (by omega))] at h4
          cases h4
    · rintro rfl
      refine ⟨h2 t (Nat.le_refl _) hk, ops[t], by simp [hk], fun e he hb => h1 _ (hback t hmk hk _ (by simp [hk]) e he hb)⟩
  have hnd : (Region.ready .any ops listed).Nodup := (List.nodup_range).filter _
  generalize Region.ready .any ops listed = rl at hmem hnd
  match rl, hmem, hnd with
  | [], hmem, _ => exact absurd ((hmem k).2 rfl) (by simp)
  | [x], hmem, _ => rw [(hmem x).1 (by simp)]
  | x :: y :: rs, hmem, hnd =>
    have e1 := (hmem x).1 (by simp)
    have e2 := (hmem y).1 (by simp)
    rw [e1, e2] at hnd
    simp at hnd

theorem seq_tail (hc : Region.chainB .any ops m = true) (hback : ∀ t, m ≤ t → t < ops.size → ∀ o, ops[t]? = some o → ∀ e ∈ o.after, Region.binds .any e = true → e.on < t) :
    ∀ (g k : Nat) (listed : Array Bool), k + g = ops.size → m ≤ k → listed.size = ops.size → (∀ i, i < k → listed.getD i false = true) → (∀ t, k ≤ t → t < ops.size → listed.getD t true = false) → Region.seqB .any ops g k listed = true
  | 0, k, listed, hg, hm, hs, h1, h2 => by
    simp only [Region.seqB, List.isEmpty_iff]
    cases hr : Region.ready .any ops listed with
    | nil => rfl
    | cons t ts =>
      exfalso
      have ht : t ∈ Region.ready .any ops listed := by rw [hr]; simp
      obtain ⟨h3, o, ho, _⟩ := mem_ready.1 ht
      have hlt := (Array.getElem?_eq_some_iff.1 ho).1
      have h4 := h1 t (by omega)
      have := getD_both h3
      rw [h4] at this
      cases this
  | g + 1, k, listed, hg, hm, hs, h1, h2 => by
    simp only [Region.seqB, Bool.and_eq_true, decide_eq_true_eq]
    refine ⟨ready_tail hc hback hm (by omega) h1 h2, seq_tail hc hback g (k + 1) _ (by omega) (by omega) (by simpa using hs) (fun i hi => ?_) (fun t ht ht' => ?_)⟩
    · by_cases hik : i = k
      · subst hik
        have : i < listed.size := by omega
        simp [this]
      · exact getD_set_true (h1 i (by omega))
    · rw [getD_set_ne true (by omega)]
      exact h2 t (by omega) ht'

/-- The same with a tail of operations that stand in their order. -/
theorem any_flowT {Q : Exit → Act → World → Prop} {a : Act} {w : World} {l : List (Nat × Value)} {ol : List Oper} (mm : Nat) (h : Fr n l a) (hB : flowTB ol.toArray mm = true)
    (H : wpFlow P ol.toArray w n (fun L A => ∀ a' w', Ext w w' → FrR n L a' w' → Fresh w L A a' w' → wpList P ol.toArray Q (ol.drop mm) a' w') (eqs l) [] (ol.take mm)) : wpAny P .any ol.toArray Q ol.toArray.size (Array.replicate ol.toArray.size false) a { w with drawn := w.drawn + 1 } := by
  simp only [flowTB, Bool.and_eq_true, decide_eq_true_eq] at hB
  obtain ⟨⟨⟨⟨hB, hn⟩, hs⟩, hc⟩, hbk⟩ := hB
  have hn' : mm < ol.length := by simpa using hn
  have hback : ∀ t, mm ≤ t → t < ol.toArray.size → ∀ o, ol.toArray[t]? = some o → ∀ e ∈ o.after, Region.binds .any e = true → e.on < t := by
    intro t ht hlt o ho e he hb
    have h1 := List.all_eq_true.1 hbk t (List.mem_range.2 hlt)
    rw [ho] at h1
    simp only [Bool.or_eq_true, decide_eq_true_eq] at h1
    rcases h1 with h1 | h1
    · omega
    · have := Array.all_eq_true_iff_forall_mem.1 h1 e he
      simpa [hb, Nat.blt_eq] using this
  have hdl : (ol.drop mm).length = ol.length - mm := by simp
  have := flow_region (P := P) (Q := Q) (g := ol.length - mm) mm (by omega) (by omega) h hB (fun listed inv i hi hun t ht => tail_waits hs hc hn inv _ i rfl hi hun t ht)
    (fun a' w' => wpList P ol.toArray Q (ol.drop mm) a' w') (fun listed a' w' hi hl hq => by
      have := wpAny_of_seq (md := .any) (Q' := Q) (ol.drop mm) mm listed a' w' (fun j => by simp [List.getElem?_drop]) (by
        rw [hdl]
        exact seq_tail hc hback _ mm listed (by simp; omega) (Nat.le_refl _) hi.size hl hi.tail) hq
      rwa [hdl] at this) H
  have e : mm + (ol.length - mm) = ol.toArray.size := by simp; omega
  rwa [e] at this
theorem wp_flowT {Q : Exit → Act → World → Prop} {a : Act} {w : World} {l : List (Nat × Value)} {id : Nat} {ol : List Oper} (mm : Nat) (h : Fr n l a) (hm : P.follows .mixedOrders = true) (hB : flowTB ol.toArray mm = true)
    (H : wpFlow P ol.toArray w n (fun L A => ∀ a' w', Ext w w' → FrR n L a' w' → Fresh w L A a' w' → wpList P ol.toArray Q (ol.drop mm) a' w') (eqs l) [] (ol.take mm)) : (Code.region id ol.toArray true).wp P Q a w := wp_region_any hm (any_flowT mm h hB H)
end
end Go.Stp
