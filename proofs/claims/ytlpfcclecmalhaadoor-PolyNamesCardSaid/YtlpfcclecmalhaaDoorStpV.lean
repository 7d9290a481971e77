/- The step library, eighteenth part: regions that draw their order, in which stores stand among the rest. -/
import Derived.Test.YtlpfcclecmalhaaDoorStpU
set_option linter.unusedSimpArgs false
set_option linter.unusedVariables false
set_option linter.unusedSectionVars false
namespace Go.Stp
open Go.RowKit

/-- What a store does: the slots stay. -/
def StepS (P : Program) (o : Oper) (H' : World → Prop) (a : Act) (w : World) : Prop :=
  ∀ (K : Act → World → Prop) (Q : Exit → Act → World → Prop), (∀ w', H' w' → K (a.put o.dst undef) w') → o.wp P a w K Q

def wpLate (P : Program) (ops : Array Oper) (C : World → Prop) (n : Nm) (F : List (Nat × RL) → (World → Prop) → Prop) : List (Nat × RL) → (World → Prop) → List Oper → Prop
  | L, H, [] => F L H
  | L, H, o :: rest =>
    (∃ d V, o.dst = some d ∧ d < n.n ∧ (∀ a w, C w → a.tmps.size = n.n → a.defers = n.ds → FrOn (o.looksAt ops) L a w → StepF P ops o false (.eq V) a w) ∧ wpLate P ops C n F ((d, .eq V) :: L) H rest) ∨
    (∃ H' : World → Prop, o.dst = none ∧ o.guard = none ∧ (∀ w w', Ext w w' → H' w → H' w') ∧ (∀ w, H' w → C w) ∧ (∀ a w, H w → a.tmps.size = n.n → a.defers = n.ds → FrOn (o.looksAt ops) L a w → StepS P o H' a w) ∧ wpLate P ops C n F L H' rest)

theorem wpLate_mono {P : Program} {ops : Array Oper} {C : World → Prop} {n : Nm} {F F' : List (Nat × RL) → (World → Prop) → Prop} (h : ∀ L H, F L H → F' L H) : ∀ {ol : List Oper} {L : List (Nat × RL)} {H : World → Prop}, wpLate P ops C n F L H ol → wpLate P ops C n F' L H ol
  | [], _, _, k => h _ _ k
  | _ :: _, _, _, .inl ⟨d, V, h1, h2, h3, k⟩ => .inl ⟨d, V, h1, h2, h3, wpLate_mono h k⟩
  | _ :: _, _, _, .inr ⟨H', h1, h2, h3, h4, h5, k⟩ => .inr ⟨H', h1, h2, h3, h4, h5, wpLate_mono h k⟩
def lateB (ops : Array Oper) : Bool :=
  (List.range ops.size).all fun k => match ops[k]? with
    | none => false
    | some o => (o.after.all fun e => !Region.binds .any e || Nat.blt e.on k) &&
      (List.range ops.size).all fun j => Nat.beq j k || match ops[j]? with
        | none => false
        | some oj => match oj.dst with
          | some dj => (match o.dst with | some d => !Nat.beq dj d | none => true) && (!(o.looksAt ops).contains dj || (bif Nat.blt j k then Region.waitsFor .any ops k j else Region.waitsFor .any ops j k))
          | none => match o.dst with
            | some _ => true
            | none => !Nat.blt j k || Region.waitsFor .any ops k j || (List.range k).any fun i => Nat.blt j i && match ops[i]? with | some oi => oi.dst.isNone | none => false

section
variable {P : Program} {ops : Array Oper} {n : Nm}

structure LateOk (ops : Array Oper) : Prop where
  back : ∀ k o, ops[k]? = some o → ∀ e ∈ o.after, Region.binds .any e = true → e.on < k
  one : ∀ (j k : Nat) (oj ok : Oper) d, j ≠ k → ops[j]? = some oj → ops[k]? = some ok → oj.dst = some d → ok.dst ≠ some d
  dep : ∀ (j k : Nat) (oj o : Oper) d, j < k → ops[j]? = some oj → ops[k]? = some o → oj.dst = some d → d ∈ o.looksAt ops → Region.waitsFor .any ops k j = true
  anti : ∀ (j k : Nat) (oj o : Oper) d, k < j → ops[j]? = some oj → ops[k]? = some o → oj.dst = some d → d ∈ o.looksAt ops → Region.waitsFor .any ops j k = true
  chain : ∀ (j k : Nat) (oj o : Oper), j < k → ops[j]? = some oj → ops[k]? = some o → oj.dst = none → o.dst = none → Region.waitsFor .any ops k j = true ∨ ∃ i oi, j < i ∧ i < k ∧ ops[i]? = some oi ∧ oi.dst = none

theorem lateB_ok (h : lateB ops = true) : LateOk ops := by
  have lt : ∀ {k : Nat} {o : Oper}, ops[k]? = some o → k < ops.size := fun h => (Array.getElem?_eq_some_iff.1 h).1
  have bq : ∀ {j k : Nat}, j ≠ k → Nat.beq j k = false := fun {j k} hne => by
    cases hb : Nat.beq j k with
    | false => rfl
    | true => exact absurd (Nat.eq_of_beq_eq_true hb) hne
  have k1 : ∀ (k : Nat) (o : Oper), ops[k]? = some o → (o.after.all fun e => !Region.binds .any e || Nat.blt e.on k) = true ∧ ∀ (j : Nat) (oj : Oper), ops[j]? = some oj → j ≠ k →
      (match oj.dst with
          | some dj => (match o.dst with | some d => !Nat.beq dj d | none => true) && (!(o.looksAt ops).contains dj || (bif Nat.blt j k then Region.waitsFor .any ops k j else Region.waitsFor .any ops j k))
          | none => match o.dst with
            | some _ => true
            | none => !Nat.blt j k || Region.waitsFor .any ops k j || (List.range k).any fun i => Nat.blt j i && match ops[i]? with | some oi => oi.dst.isNone | none => false) = true := by
    intro k o ho
    have h1 := List.all_eq_true.1 h k (List.mem_range.2 (lt ho))
    rw [ho] at h1
    obtain ⟨h1, h2⟩ := Bool.and_eq_true_iff.1 h1
    refine ⟨h1, fun j oj hj hne => ?_⟩
    have h3 := List.all_eq_true.1 h2 j (List.mem_range.2 (lt hj))
    rw [bq hne, hj] at h3
    simpa using h3
  have ct : ∀ {o : Oper} {d : Nat}, d ∈ o.looksAt ops → (o.looksAt ops).contains d = true := fun h => List.contains_iff_mem.2 h
  refine ⟨fun k o ho e he hb => ?_, fun j k oj ok d hne hj hk hd hd' => ?_, fun j k oj o d hjk hj hk hd hm => ?_, fun j k oj o d hkj hj hk hd hm => ?_, fun j k oj o hjk hj hk hd hd' => ?_⟩
  · have := Array.all_eq_true_iff_forall_mem.1 (k1 k o ho).1 e he
    simpa [hb, Nat.blt_eq] using this
  · have h2 := (k1 k ok hk).2 j oj hj hne
    rw [hd, hd'] at h2
    simp only [Bool.and_eq_true, Bool.not_eq_true'] at h2
    have := h2.1
    rw [Nat.beq_refl] at this
    cases this
  · have h2 := (k1 k o hk).2 j oj hj (by omega)
    rw [hd] at h2
    simp only [Bool.and_eq_true] at h2
    have h3 := h2.2
    rw [ct hm, show Nat.blt j k = true by simpa [Nat.blt_eq] using hjk] at h3
    simpa using h3
  · have h2 := (k1 k o hk).2 j oj hj (by omega)
    rw [hd] at h2
    simp only [Bool.and_eq_true] at h2
    have h3 := h2.2
    rw [ct hm, show Nat.blt j k = false by
      cases hb : Nat.blt j k with
      | false => rfl
      | true => exact absurd (by simpa [Nat.blt_eq] using hb) (by omega : ¬ j < k)] at h3
    simpa using h3
  · have h2 := (k1 k o hk).2 j oj hj (by omega)
    rw [hd, hd'] at h2
    rw [show Nat.blt j k = true by simpa [Nat.blt_eq] using hjk] at h2
    simp only [Bool.not_true, Bool.false_or, Bool.or_eq_true] at h2
    rcases h2 with h2 | h2
    · exact .inl h2
    · obtain ⟨i, hi, h3⟩ := List.any_eq_true.1 h2
      obtain ⟨h3, h4⟩ := Bool.and_eq_true_iff.1 h3
      cases hoi : ops[i]? with
      | none => rw [hoi] at h4; cases h4
      | some oi =>
        rw [hoi] at h4
        exact .inr ⟨i, oi, by simpa [Nat.blt_eq] using h3, List.mem_range.1 hi, hoi, by simpa using h4⟩

def ctxL (L : List (Nat × RL)) : List (Option (Nat × Value)) → List (Nat × RL)
  | [] => L
  | some (d, V) :: T => ctxL ((d, .eq V) :: L) T
  | none :: T => ctxL L T
theorem lookL_ctxL : ∀ (T : List (Option (Nat × Value))) (L : List (Nat × RL)) (s : Nat) (r : RL), lookL (ctxL L T) s = some r →
    (∃ (j : Nat) (V : Value), T[j]? = some (some (s, V)) ∧ r = .eq V) ∨ ((∀ (j : Nat) d V, T[j]? = some (some (d, V)) → d ≠ s) ∧ lookL L s = some r)
  | [], L, s, r, h => .inr ⟨fun j d V e => by simp at e, h⟩
  | none :: T, L, s, r, h => by
    rcases lookL_ctxL T L s r h with ⟨j, V, hj, hr⟩ | ⟨h1, h2⟩
    · exact .inl ⟨j + 1, V, by simpa using hj, hr⟩
    · refine .inr ⟨fun j d V e => ?_, h2⟩
      cases j with
      | zero => simp at e
      | succ j => exact h1 j d V (by simpa using e)
  | some (d, V0) :: T, L, s, r, h => by
    rcases lookL_ctxL T _ s r h with ⟨j, V, hj, hr⟩ | ⟨h1, h2⟩
    · exact .inl ⟨j + 1, V, by simpa using hj, hr⟩
    · simp only [lookL] at h2
      cases hb : Nat.beq d s with
      | true =>
        rw [hb] at h2
        simp only [cond_true, Option.some.injEq] at h2
        have := Nat.eq_of_beq_eq_true hb
        subst this
        exact .inl ⟨0, V0, by simp, h2.symm⟩
      | false =>
        rw [hb] at h2
        refine .inr ⟨fun j d' V e => ?_, h2⟩
        cases j with
        | zero =>
          simp only [List.getElem?_cons_zero, Option.some.injEq, Prod.mk.injEq] at e
          obtain ⟨rfl, _⟩ := e
          intro e2
          subst e2
          rw [Nat.beq_refl] at hb
          cases hb
        | succ j => exact h1 j d' V (by simpa using e)

/-- What the text has told, operation by operation. -/
structure Told (P : Program) (ops : Array Oper) (C : World → Prop) (n : Nm) (L : List (Nat × RL)) (T : List (Option (Nat × Value))) (hs : Nat → World → Prop) (k : Nat) (o : Oper) : Prop where
  way : (∃ d V, T[k]? = some (some (d, V)) ∧ o.dst = some d ∧ d < n.n ∧ hs (k + 1) = hs k ∧ ∀ a w, C w → a.tmps.size = n.n → a.defers = n.ds → FrOn (o.looksAt ops) (ctxL L (T.take k)) a w → StepF P ops o false (.eq V) a w) ∨
    (T[k]? = some none ∧ o.dst = none ∧ o.guard = none ∧ (∀ w w', Ext w w' → hs (k + 1) w → hs (k + 1) w') ∧ (∀ w, hs (k + 1) w → C w) ∧
      ∀ a w, hs k w → a.tmps.size = n.n → a.defers = n.ds → FrOn (o.looksAt ops) (ctxL L (T.take k)) a w → StepS P o (hs (k + 1)) a w)

theorem late_ex {C : World → Prop} {F : List (Nat × RL) → (World → Prop) → Prop} : ∀ (l : List Oper) (L : List (Nat × RL)) (H : World → Prop), wpLate P ops C n F L H l →
    ∃ (T : List (Option (Nat × Value))) (hs : Nat → World → Prop), T.length = l.length ∧ hs 0 = H ∧ (∀ k o, l[k]? = some o → Told P ops C n L T hs k o) ∧ F (ctxL L T) (hs l.length)
  | [], L, H, h => ⟨[], fun _ => H, rfl, rfl, fun k o h => by simp at h, h⟩
  | o :: l, L, H, .inl ⟨d, V, h1, h2, h3, h4⟩ => by
    obtain ⟨T, hs, t1, t2, t3, t4⟩ := late_ex l _ _ h4
    refine ⟨some (d, V) :: T, fun k => match k with | 0 => H | k + 1 => hs k, by simp [t1], rfl, fun k o' ho => ?_, t4⟩
    cases k with
    | zero =>
      simp only [List.getElem?_cons_zero, Option.some.injEq] at ho
      subst ho
      exact ⟨.inl ⟨d, V, by simp, h1, h2, t2, h3⟩⟩
    | succ k =>
      simp only [List.getElem?_cons_succ] at ho
      exact ⟨(t3 k o' ho).way.imp (fun ⟨d', V', e1, e2, e3, e4, e5⟩ => ⟨d', V', by simpa using e1, e2, e3, e4, by simpa [ctxL] using e5⟩)
        fun ⟨e1, e2, e3, e4, e5, e6⟩ => ⟨by simpa using e1, e2, e3, e4, e5, by simpa [ctxL] using e6⟩⟩
  | o :: l, L, H, .inr ⟨H', h1, h2, h3, h4, h5, h6⟩ => by
    obtain ⟨T, hs, t1, t2, t3, t4⟩ := late_ex l _ _ h6
    refine ⟨none :: T, fun k => match k with | 0 => H | k + 1 => hs k, by simp [t1], rfl, fun k o' ho => ?_, t4⟩
    cases k with
    | zero =>
      simp only [List.getElem?_cons_zero, Option.some.injEq] at ho
      subst ho
      refine ⟨.inr ⟨by simp, h1, h2, ?_, ?_, ?_⟩⟩
      · show ∀ w w', Ext w w' → hs 0 w → hs 0 w'
        rw [t2]; exact h3
      · show ∀ w, hs 0 w → C w
        rw [t2]; exact h4
      · show ∀ a w, H w → _ → _ → _ → StepS P o (hs 0) a w
        rw [t2]; exact h5
    | succ k =>
      simp only [List.getElem?_cons_succ] at ho
      exact ⟨(t3 k o' ho).way.imp (fun ⟨d', V', e1, e2, e3, e4, e5⟩ => ⟨d', V', by simpa using e1, e2, e3, e4, by simpa [ctxL] using e5⟩)
        fun ⟨e1, e2, e3, e4, e5, e6⟩ => ⟨by simpa using e1, e2, e3, e4, e5, by simpa [ctxL] using e6⟩⟩

/-- On the way. -/
structure LWay (ops : Array Oper) (n : Nm) (T : List (Option (Nat × Value))) (hs : Nat → World → Prop) (a0 : Act) (listed : Array Bool) (a : Act) (w : World) : Prop where
  inv : HeadInv .any ops ops.size listed
  size : a.tmps.size = n.n
  defers : a.defers = n.ds
  old : ∀ s, (∀ j o, ops[j]? = some o → listed.getD j false = true → o.dst ≠ some s) → a.tmps.getD s undef = a0.tmps.getD s undef
  new : ∀ (j d : Nat) (V : Value), T[j]? = some (some (d, V)) → listed.getD j false = true → a.tmps.getD d undef = V
  at_ : ∃ t, t ≤ ops.size ∧ hs t w ∧ ∀ j o, ops[j]? = some o → o.dst = none → (listed.getD j false = true ↔ j < t)

/-- All stores that stand ahead are done. -/
theorem chain_done (ok : LateOk ops) {listed : Array Bool} (hc : ∀ j oj, ops[j]? = some oj → listed.getD j false = true → ∀ e ∈ oj.after, Region.binds .any e = true → listed.getD e.on false = true) :
    ∀ (D k j : Nat) (o oj : Oper), k - j ≤ D → j < k → ops[k]? = some o → ops[j]? = some oj → o.dst = none → oj.dst = none → (∀ e ∈ o.after, Region.binds .any e = true → listed.getD e.on false = true) → listed.getD j false = true
  | 0, k, j, o, oj, hD, hjk, _, _, _, _, _ => by omega
  | D + 1, k, j, o, oj, hD, hjk, ho, hoj, hd, hdj, hr => by
    rcases ok.chain j k oj o hjk hoj ho hdj hd with h | ⟨i, oi, h1, h2, h3, h4⟩
    · obtain ⟨o', ho', e, he, hb, hon⟩ := Region.waitsFor_spec h
      obtain rfl : o' = o := Option.some.inj (ho'.symm.trans ho)
      rw [← hon]
      exact hr e he hb
    · have hi := chain_done ok hc D k i o oi (by omega) h2 ho h3 hd h4 hr
      exact chain_done ok hc D i j oi oj (by omega) h1 h3 hoj h4 hdj (hc i oi h3 hi)

theorem hs_const {C : World → Prop} {L : List (Nat × RL)} {T : List (Option (Nat × Value))} {hs : Nat → World → Prop} (hT : ∀ k o, ops[k]? = some o → Told P ops C n L T hs k o) :
    ∀ (D t : Nat), t + D ≤ ops.size → (∀ j o, t ≤ j → j < t + D → ops[j]? = some o → o.dst ≠ none) → hs (t + D) = hs t
  | 0, t, _, _ => rfl
  | D + 1, t, hle, h => by
    have ih := hs_const hT D t (by omega) fun j o h1 h2 h3 => h j o h1 (by omega) h3
    have hlt : t + D < ops.size := by omega
    have ho : ops[t + D]? = some ops[t + D] := by simp [hlt]
    rcases (hT _ _ ho).way with ⟨d, V, _, _, _, e, _⟩ | ⟨_, e, _⟩
    · rw [← ih]
      exact e
    · exact absurd e (h (t + D) _ (by omega) (by omega) ho)

theorem wpAny_late {Q : Exit → Act → World → Prop} {C : World → Prop} {T : List (Option (Nat × Value))} {hs : Nat → World → Prop} {L0 : List (Nat × RL)} {a0 : Act} (ok : LateOk ops)
    (hL0 : ∀ s r, lookL L0 s = some r → ∃ V, r = .eq V ∧ a0.tmps.getD s undef = V) (hT : ∀ k o, ops[k]? = some o → Told P ops C n L0 T hs k o)
    (hst0 : ∀ w w', Ext w w' → hs 0 w → hs 0 w') (hC0 : ∀ w, hs 0 w → C w)
    (hend : ∀ listed a w, (∀ i, i < ops.size → listed.getD i false = true) → LWay ops n T hs a0 listed a w → Q .normal a w) :
    ∀ (f : Nat) (listed : Array Bool) (a : Act) (w : World), cnt listed ops.size = f → LWay ops n T hs a0 listed a w → wpAny P .any ops Q f listed a w := by
  have hC : ∀ t, t ≤ ops.size → (∀ w w', Ext w w' → hs t w → hs t w') ∧ ∀ w, hs t w → C w := by
    intro t
    induction t with
    | zero => exact fun _ => ⟨hst0, hC0⟩
    | succ t ih =>
      intro ht
      have hlt : t < ops.size := by omega
      have ho : ops[t]? = some ops[t] := by simp [hlt]
      rcases (hT _ _ ho).way with ⟨d, V, _, _, _, e, _⟩ | ⟨_, _, _, e1, e2, _⟩
      · rw [e]; exact ih (by omega)
      · exact ⟨e1, e2⟩
  have dT : ∀ (j d : Nat) (V : Value), T[j]? = some (some (d, V)) → ∀ o, ops[j]? = some o → o.dst = some d := by
    intro j d V h o ho
    rcases (hT j o ho).way with ⟨d', V', h1, h2, _⟩ | ⟨h1, _⟩
    · rw [h1] at h
      simp only [Option.some.injEq, Prod.mk.injEq] at h
      rw [h2, h.1]
    · rw [h1] at h; cases h
  intro f
  induction f with
  | zero =>
    intro listed a w hc Wy
    have hall := cnt_zero _ hc
    refine ⟨?_, hend listed a w hall Wy⟩
    cases hr : Region.ready .any ops listed with
    | nil => rfl
    | cons t ts =>
      exfalso
      have ht : t ∈ Region.ready .any ops listed := by rw [hr]; simp
      obtain ⟨h1, o, ho, _⟩ := mem_ready.1 ht
      have h2 := hall t (Array.getElem?_eq_some_iff.1 ho).1
      have := getD_both h1
      rw [h2] at this
      cases this
  | succ f ih =>
    intro listed a w hc Wy
    obtain ⟨i0, hi0, hl0, hbefore⟩ := cnt_some _ (show 0 < cnt listed ops.size by omega)
    have hun0 : listed.getD i0 true = false := getD_in (by rw [Wy.inv.size]; omega) hl0
    have hr0 : i0 ∈ Region.ready .any ops listed := by
      have ho : ops[i0]? = some ops[i0] := by simp [hi0]
      exact mem_ready.2 ⟨hun0, _, ho, fun e he hb => hbefore _ (ok.back i0 _ ho e he hb)⟩
    refine ⟨fun h => (by rw [h] at hr0; cases hr0), fun i hi => ?_⟩
    obtain ⟨hiun, oi, hoi, hall⟩ := mem_ready.1 hi
    have him : i < ops.size := (Array.getElem?_eq_some_iff.1 hoi).1
    have hil : listed.getD i false = false := getD_both hiun
    have hlt : i < listed.size := by rw [Wy.inv.size]; omega
    have hself : (listed.setIfInBounds i true).getD i false = true := by simp [hlt]
    have lst : ∀ j, (listed.setIfInBounds i true).getD j false = true → j ≠ i → listed.getD j false = true := fun j hj hji => by
      rwa [getD_set_ne false (Ne.symm hji)] at hj
    have hc' : cnt (listed.setIfInBounds i true) ops.size = f := by
      have := cnt_set hlt hil _ him
      omega
    obtain ⟨t, htn, hst, hti⟩ := Wy.at_
    have hfr : FrOn (oi.looksAt ops) (ctxL L0 (T.take i)) a w := by
      intro s hs' r' hr'
      rcases lookL_ctxL _ _ _ _ hr' with ⟨j, V, hj, rfl⟩ | ⟨h1, h2⟩
      · have hji : j < i := by
          have := (List.getElem?_eq_some_iff.1 hj).1
          simp only [List.length_take] at this
          omega
        have hj' : T[j]? = some (some (s, V)) := by rw [List.getElem?_take, if_pos hji] at hj; exact hj
        have hoj : ops[j]? = some (ops[j]'(by omega)) := by simp [show j < ops.size by omega]
        have hwait := ok.dep j i _ oi s hji hoj hoi (dT j s V hj' _ hoj) hs'
        obtain ⟨o', ho', e, he, hb, hon⟩ := Region.waitsFor_spec hwait
        obtain rfl : o' = oi := Option.some.inj (ho'.symm.trans hoi)
        exact Wy.new j s V hj' (by rw [← hon]; exact hall e he hb)
      · obtain ⟨V, rfl, hV⟩ := hL0 s r' h2
        show a.tmps.getD s undef = V
        rw [← hV]
        refine Wy.old s fun j oj hoj hlj hdj => ?_
        rcases Nat.lt_trichotomy j i with hlt' | heq | hgt
        · rcases (hT j oj hoj).way with ⟨d, V', h3, h4, _⟩ | ⟨_, h4, _⟩
          · rw [h4] at hdj
            exact h1 j d V' (by rw [List.getElem?_take, if_pos hlt']; exact h3) (Option.some.inj hdj)
          · rw [h4] at hdj; cases hdj
        · subst heq
          rw [hil] at hlj
          cases hlj
        · have hwait := ok.anti j i oj oi s hgt hoj hoi hdj hs'
          obtain ⟨o', ho', e, he, hb, hon⟩ := Region.waitsFor_spec hwait
          have := Wy.inv.closed j o' ho' hlj e he hb
          rw [hon, hil] at this
          cases this
    rcases (hT i oi hoi).way with ⟨d, V, hTi, hd, hdn, hcs, hok⟩ | ⟨hTi, hd, hg, hst', hC', hok⟩
    · -- a value
      have next : ∀ v w', Ext w w' → v = V → LWay ops n T hs a0 (listed.setIfInBounds i true) (a.put oi.dst v) w' := by
        intro v w' X hv
        subst hv
        rw [hd]
        refine ⟨Wy.inv.set hi him, by simp [Act.put, Wy.size], by simp [Act.put, Wy.defers], fun s hs' => ?_, fun j d' V' hj hlj => ?_, t, htn, (hC t htn).1 _ _ X hst, fun j o ho hdo => ?_⟩
        · have hne : d ≠ s := fun e => by
            subst e
            exact hs' i oi hoi hself hd
          rw [getD_put_ne hne]
          exact Wy.old s fun j o ho hlj => hs' j o ho (getD_set_true hlj)
        · by_cases hji : j = i
          · subst hji
            rw [hTi] at hj
            simp only [Option.some.injEq, Prod.mk.injEq] at hj
            obtain ⟨rfl, rfl⟩ := hj
            exact getD_put_self (by rw [Wy.size]; exact hdn)
          · have hjl := lst j hlj hji
            have hjs : j < ops.size := by
              rcases Nat.lt_or_ge j listed.size with h | h
              · rw [← Wy.inv.size]; exact h
              · simp [Array.getElem?_eq_none h] at hjl
            have hoj : ops[j]? = some (ops[j]) := by simp [hjs]
            rw [getD_put_ne fun e => ok.one j i _ oi d hji hoj hoi (by rw [dT j d' V' hj _ hoj, e]) hd]
            exact Wy.new j d' V' hj hjl
        · by_cases hji : j = i
          · subst hji
            rw [hoi] at ho
            obtain rfl := Option.some.inj ho
            rw [hd] at hdo; cases hdo
          · rw [getD_set_ne false (Ne.symm hji)]
            exact hti j o ho hdo
      unfold wpOp
      simp only [hoi]
      rcases hok a w ((hC t htn).2 w hst) Wy.size Wy.defers hfr with ⟨hwant, hv⟩ | ⟨hwant, hK⟩
      · rw [if_neg (by rw [hwant]; exact Bool.false_ne_true)]
        exact ih _ _ _ hc' (next undef w (Ext.refl _) hv)
      · rw [if_pos hwant]
        left
        exact hK _ _ fun v w' X hv _ => ih _ _ _ hc' (next v w' X hv)
    · -- a store
      have hbef : ∀ j oj, j < i → ops[j]? = some oj → oj.dst = none → listed.getD j false = true := fun j oj hji hoj hdj =>
        chain_done ok Wy.inv.closed _ i j oi oj (Nat.le_refl _) hji hoi hoj hd hdj hall
      have hti' : t ≤ i := by
        rcases Nat.lt_or_ge i t with h | h
        · have := (hti i oi hoi hd).2 h
          rw [hil] at this; cases this
        · exact h
      have he : hs i = hs t := by
        have := hs_const hT (i - t) t (by omega) fun j o h1 h2 h3 h4 => by
          have h5 := hbef j o (by omega) h3 h4
          have := (hti j o h3 h4).1 h5
          omega
        rwa [show t + (i - t) = i by omega] at this
      have hgo := hok a w (by rw [he]; exact hst) Wy.size Wy.defers hfr
      unfold wpOp
      simp only [hoi]
      rw [if_pos (wanted_none hg)]
      left
      refine hgo _ _ fun w' hw' => ih _ _ _ hc' ?_
      rw [hd]
      refine ⟨Wy.inv.set hi him, Wy.size, Wy.defers, fun s hs' => Wy.old s fun j o ho hlj => hs' j o ho (getD_set_true hlj), fun j d' V' hj hlj => ?_, i + 1, by omega, hw', fun j o ho hdo => ?_⟩
      · refine Wy.new j d' V' hj (lst j hlj fun e => ?_)
        subst e
        rw [hTi] at hj; cases hj
      · by_cases hji : j = i
        · subst hji
          rw [hself]
          simp
        · rw [getD_set_ne false (Ne.symm hji)]
          constructor
          · intro h
            have := (hti j o ho hdo).1 h
            omega
          · intro h
            exact hbef j o (by omega) ho hdo

theorem wp_late {Q : Exit → Act → World → Prop} {a : Act} {w : World} {l : List (Nat × Value)} {id : Nat} {ol : List Oper} (C H0 : World → Prop) (h : Fr n l a) (hm : P.follows .mixedOrders = true) (hB : lateB ol.toArray = true)
    (hC : ∀ w, H0 w → C w) (hst : ∀ w w', Ext w w' → H0 w → H0 w') (h0 : H0 w)
    (k : wpLate P ol.toArray C n (fun L H => ∀ a' w', H w' → FrR n L a' w' → Q .normal a' w') (eqs l) H0 ol) : (Code.region id ol.toArray true).wp P Q a w := by
  have ok := lateB_ok hB
  obtain ⟨T, hs, t1, t2, t3, t4⟩ := late_ex _ _ _ k
  subst t2
  refine wp_region_any hm ?_
  have hT : ∀ k o, ol.toArray[k]? = some o → Told P ol.toArray C n (eqs l) T hs k o := fun k o ho => t3 k o (by simpa using ho)
  have hc0 : ∀ k, cnt (Array.replicate ol.toArray.size false) k = k := by
    intro k
    induction k with
    | zero => rfl
    | succ k ih => simp only [cnt, ih, getD_replicate_false]; simp
  refine wpAny_late (T := T) (hs := hs) (L0 := eqs l) (a0 := a) ok (fun s r hr => ?_) hT hst hC (fun listed a' w' hall Wy => ?_) _ _ _ _ (hc0 _) ?_
  · obtain ⟨v, rfl, hv⟩ := lookL_eqs l s r hr
    exact ⟨v, rfl, h.has _ _ hv⟩
  · obtain ⟨t, htn, hst', hti⟩ := Wy.at_
    have he : hs ol.toArray.size = hs t := by
      have := hs_const hT (ol.toArray.size - t) t (by omega) fun j o h1 h2 h3 h4 => by
        have := (hti j o h3 h4).1 (hall j (Array.getElem?_eq_some_iff.1 h3).1)
        omega
      rwa [show t + (ol.toArray.size - t) = ol.toArray.size by omega] at this
    refine t4 a' w' (by rw [show ol.length = ol.toArray.size by simp, he]; exact hst') ⟨Wy.size, Wy.defers, fun s r hr => ?_⟩
    rcases lookL_ctxL _ _ _ _ hr with ⟨j, V, hj, rfl⟩ | ⟨h1, h2⟩
    · refine Wy.new j s V hj (hall j ?_)
      have := (List.getElem?_eq_some_iff.1 hj).1
      simp only [List.size_toArray]
      omega
    · obtain ⟨v, rfl, hv⟩ := lookL_eqs l s r h2
      show a'.tmps.getD s undef = v
      rw [Wy.old s fun j o ho hlj hdj => ?_]
      · exact h.has _ _ hv
      · rcases (hT j o ho).way with ⟨d, V', h3, h4, _⟩ | ⟨_, h4, _⟩
        · rw [h4] at hdj
          exact h1 j d V' h3 (Option.some.inj hdj)
        · rw [h4] at hdj; cases hdj
  · refine ⟨⟨by simp, fun j oj _ hl => (by rw [getD_replicate_false] at hl; cases hl), fun t _ ht => getD_in (by simpa using ht) (getD_replicate_false _ _)⟩, h.size, h.defers, fun _ _ => rfl, fun j d V _ hl => ?_, 0, Nat.zero_le _, hst _ _ (Ext.drew w) h0, fun j o ho hdo => ?_⟩
    · rw [getD_replicate_false] at hl; cases hl
    · rw [getD_replicate_false]
      simp
end

/-! ### own blocks that are written there -/
def dead : Own := .row 0 1 (.slice none 0 0) 0 []
def deads : List Nat → List Own → List Own
  | [], hl => hl
  | i :: I, hl => deads I (hl.set i dead)
section
variable {w0 : Bs} {w w' : World} {Zi Z : FZ} {hl : List Own}
theorem HZ.dead1 (H : HZ w0 Zi Z hl w) (i : Nat) : HZ w0 Zi Z (hl.set i dead) w := by
  rcases Nat.lt_or_ge i hl.length with h | h
  · have hat : ∀ c, dead.at = some c → (hl[i]).at = some c ∨ w.heap.size ≤ c := fun c hc => by simp [dead, Own.at, Value.ownBlock] at hc
    exact H.turn i (List.getElem?_eq_getElem h) (H.hp.turn i (List.getElem?_eq_getElem h) dead (World.ownsRow_nil w 0 0 1) rfl rfl rfl (Nat.le_refl _) (fun _ _ _ => rfl) hat) (fun _ _ _ => rfl) hat
  · rw [List.set_eq_of_length_le h]
    exact H
theorem HZ.deads : ∀ (I : List Nat) {hl : List Own}, HZ w0 Zi Z hl w → HZ w0 Zi Z (deads I hl) w
  | [], _, H => H
  | i :: I, _, H => HZ.deads I (H.dead1 i)
variable {P : Program} {ops : Array Oper} {n : Nm} {d : Nat} {C : World → Prop} {F : List (Nat × RL) → (World → Prop) → Prop} {L : List (Nat × RL)} {Hh : World → Prop} {rest : List Oper} {o : Oper} {V : Value} {ρ : Type} {r : ρ}
theorem L1 (hd : dstB n.n o = some d) (hv : ∀ w, C w → Val P (pickE L (o.looksAt ops)) w o V) (k : wpLate P ops C n F ((d, .eq V) :: L) Hh rest) : wpLate P ops C n F L Hh (o :: rest) := by
  obtain ⟨h1, h2, h3⟩ := dstB_ok hd
  refine .inl ⟨d, V, h2, by simpa [Nat.blt_eq] using h3, fun a w X hsz hdf hF => .inr ⟨wanted_none h1, fun K Q hk => ?_⟩, k⟩
  exact (hv w X).doesF n a (pickE_fr hsz hdf _ (fun s hs => hF s hs)) K Q fun v w' hr => hk v w' hr.1 hr.2.1 hr.2.2
theorem L2 (hd : dstB n.n o = some d) (hv : ∀ w, C w → Does P (pickE L (o.looksAt ops)) w o (fun v w' => v = V ∧ Ext w w')) (k : wpLate P ops C n F ((d, .eq V) :: L) Hh rest) : wpLate P ops C n F L Hh (o :: rest) := by
  obtain ⟨h1, h2, h3⟩ := dstB_ok hd
  refine .inl ⟨d, V, h2, by simpa [Nat.blt_eq] using h3, fun a w X hsz hdf hF => .inr ⟨wanted_none h1, fun K Q hk => ?_⟩, k⟩
  exact (hv w X).doesF n a (pickE_fr hsz hdf _ (fun s hs => hF s hs)) K Q fun v w' hr => hk v w' hr.1 hr.2.1 hr.2.2
theorem lcps : ∀ (k : Nat) {L L' : List (Nat × RL)} {ol ol' : List Oper}, cpRunF ops n.n k L ol = some (L', ol') → wpLate P ops C n F L' Hh ol' → wpLate P ops C n F L Hh ol
  | 0, L, L', ol, ol', e, kk => by
    simp only [cpRunF, Option.some.injEq, Prod.mk.injEq] at e
    obtain ⟨rfl, rfl⟩ := e
    exact kk
  | k + 1, L, L', [], ol', e, kk => by cases e
  | k + 1, L, L', o :: ol, ol', e, kk => by
    simp only [cpRunF] at e
    split at e
    · cases e
    · rename_i d hd
      split at e
      · cases e
      · rename_i V hV
        exact L1 hd (fun w _ => cpV_ok hV) (lcps k e kk)
theorem lI {Z : Int} {f : Int → Option ρ} {k : IntKind} (hS : bindv Z f = some r) (hd : dstB n.n o = some d) (hv : ∀ w, C w → Val P (pickE L (o.looksAt ops)) w o (.int k Z)) (kk : ∀ z, z = Z → f z = some r → wpLate P ops C n F ((d, .eq (.int k z)) :: L) Hh rest) : wpLate P ops C n F L Hh (o :: rest) := L1 hd hv (kk Z rfl hS)
theorem lB {Z : Bool} {f : Bool → Option ρ} (hS : bindv Z f = some r) (hd : dstB n.n o = some d) (hv : ∀ w, C w → Val P (pickE L (o.looksAt ops)) w o (.bool Z)) (kk : ∀ z, z = Z → f z = some r → wpLate P ops C n F ((d, .eq (.bool z)) :: L) Hh rest) : wpLate P ops C n F L Hh (o :: rest) := L1 hd hv (kk Z rfl hS)
theorem lS {Z : List UInt8} {f : List UInt8 → Option ρ} (hS : bindv Z f = some r) (hd : dstB n.n o = some d) (hv : ∀ w, C w → Val P (pickE L (o.looksAt ops)) w o (S Z)) (kk : ∀ z, z = Z → f z = some r → wpLate P ops C n F ((d, .eq (S z)) :: L) Hh rest) : wpLate P ops C n F L Hh (o :: rest) := L1 hd hv (kk Z rfl hS)
theorem lC {α : Type} {B : Option α} {f : α → Option ρ} {V : α → Value} (hS : obind B f = some r) (hd : dstB n.n o = some d) (hv : ∀ y, B = some y → ∀ w, C w → Does P (pickE L (o.looksAt ops)) w o (fun v w' => v = V y ∧ Ext w w'))
    (kk : ∀ y, f y = some r → wpLate P ops C n F ((d, .eq (V y)) :: L) Hh rest) : wpLate P ops C n F L Hh (o :: rest) := by
  obtain ⟨y, e, hS⟩ := bo hS
  exact L2 hd (hv y e) (kk y hS)
variable {t ty e : TypeId} {pos : String} {af : Array Edge} {x y : Operand} {b off k : Nat} {cs : List Value}
/-- A store into an own block. -/
theorem LS {I : List Nat} {hl0 : List Own} (i : Nat) {off : Nat} {k : Nat} (hx : ev (pickE L (Oper.looksAt ops ⟨none, .store t x y, ty, pos, af, none⟩)) x = some (.pointer (some ⟨b, off, none⟩))) (hy : ev (pickE L (Oper.looksAt ops ⟨none, .store t x y, ty, pos, af, none⟩)) y = some V) (hi : hl[i]? = some (.blk b (Cel cs e)))
    (hs : ∀ w, (sizeOf t).run P w = .ok k w) (vs : List Value) (hvs : V.cells.toList = vs) (hk : vs.length = k) (h1 : allOne vs = true) (hle : off + k ≤ cs.length)
    (cs' : List Value) (hcs : putAt cs off vs = cs') {hl' : List Own} (hhl : hl.set i (.blk b (Cel cs' e)) = hl') (hI : deads I hl' = deads I hl0)
    (kk : wpLate P ops (HZ w0 Zi Z (deads I hl0)) n F L (HZ w0 Zi Z hl') rest) :
    wpLate P ops (HZ w0 Zi Z (deads I hl0)) n F L (HZ w0 Zi Z hl) (⟨none, .store t x y, ty, pos, af, none⟩ :: rest) := by
  refine .inr ⟨HZ w0 Zi Z hl', rfl, rfl, fun w w' X H => H.ext X, fun w H => by rw [← hI]; exact H.deads I, fun a w H hsz hdf hF K Q hK => ?_, kk⟩
  have h := pickE_fr (n := n) hsz hdf _ (fun s hs => hF s hs)
  have hsz : V.cells.size = k := by rw [← hk, ← hvs]; simp
  have e1 : execOp a.eval ⟨none, .store t x y, ty, pos, af, none⟩ = Instr.storeAt t (a.eval x) (a.eval y) >>= fun _ => pure .skip := rfl
  obtain ⟨w', hr, hh, r1, r2, r3, r4, r5⟩ := storeCells_world (P := P) b off e vs 0 cs w (H.hp.get i hi) (by omega) (allOne_mem h1)
  have e2 : (execOp a.eval ⟨none, .store t x y, ty, pos, af, none⟩).run P w = .ok .skip w' := by
    rw [e1, h.ev hx, h.ev hy]
    simp [Instr.storeAt, Instr.sureAddr, storeVar, hs, hsz, hvs, hr]
  unfold Oper.wp
  rw [e2]
  rw [Nat.add_zero, hcs] at hh
  refine hK w' ?_
  have H' := H.hp.turn i hi (.blk b (Cel cs' e)) hh r1 r2 r3 (by omega) (fun b' _ hne => r5 b' (fun e => hne (by rw [e]; rfl))) (fun b' hb' => .inl (by simpa [Own.at] using hb'))
  rw [← hhl]
  exact H.turn i hi H' (fun c _ hc => r5 c fun e => hc (by rw [e]; rfl)) (fun c hc => .inl (by simpa [Own.at] using hc))
theorem LZ {I : List Nat} {hl0 : List Own} (i : Nat) {off : Nat} {k : Nat} (hs : ∀ w, (sizeOf t).run P w = .ok k w) (vs cs' : List Value) (hl' : List Own) (kk : wpLate P ops (HZ w0 Zi Z (deads I hl0)) n F L (HZ w0 Zi Z hl') rest)
    (hx : ev (pickE L (Oper.looksAt ops ⟨none, .store t x y, ty, pos, af, none⟩)) x = some (.pointer (some ⟨b, off, none⟩)) := by rfl) (hy : ev (pickE L (Oper.looksAt ops ⟨none, .store t x y, ty, pos, af, none⟩)) y = some V := by rfl) (hi : hl[i]? = some (.blk b (Cel cs e)) := by rfl)
    (hvs : V.cells.toList = vs := by rfl) (hk : vs.length = k := by rfl) (h1 : allOne vs = true := by rfl) (hle : Nat.ble (off + k) cs.length = true := by rfl) (hcs : putAt cs off vs = cs' := by rfl) (hhl : hl.set i (.blk b (Cel cs' e)) = hl' := by rfl) (hI : deads I hl' = deads I hl0 := by rfl) :
    wpLate P ops (HZ w0 Zi Z (deads I hl0)) n F L (HZ w0 Zi Z hl) (⟨none, .store t x y, ty, pos, af, none⟩ :: rest) :=
  LS i hx hy hi hs vs hvs hk h1 (by simpa [Nat.ble_eq] using hle) cs' hcs hhl hI kk
theorem lE {G : Act → World → Prop} (S : List Nat) (l' : List (Nat × Value)) (kk : ∀ a w, Hh w → Fr n l' a → G a w) (e : pickE L S = l' := by rfl) :
    wpLate P ops C n (fun L H => ∀ a' w', H w' → FrR n L a' w' → G a' w') L Hh [] := fun a w H hR =>
  kk a w H (by subst e; exact pickE_fr hR.size hR.defers S fun s _ r hr => hR.has s r hr)
end
section
variable {P : Program} {Q : Exit → Act → World → Prop} {n : Nm} {l : List (Nat × Value)} {a : Act} {w : World} {w0 : Bs} {Zi Z : FZ} {hl : List Own}
theorem lt {id : Nat} {ol : List Oper} {y : Code} (I : List Nat) (h : Fr n l a) (H : HZ w0 Zi Z hl w) (k : wpLate P ol.toArray (HZ w0 Zi Z (deads I hl)) n (fun L H => ∀ a' w', H w' → FrR n L a' w' → y.wp P Q a' w') (eqs l) (HZ w0 Zi Z hl) ol)
    (hm : P.follows .mixedOrders = true := by kernel_rfl) (hB : lateB ol.toArray = true := by kernel_rfl) : (Code.seq (.region id ol.toArray true) y).wp P Q a w :=
  wp_seq_k fun K hK => wp_late (HZ w0 Zi Z (deads I hl)) (HZ w0 Zi Z hl) h hm hB (fun w H => H.deads I) (fun w w' X H => H.ext X) H (by
    refine wpLate_mono (fun L H' hF a' w' h1 h2 => ?_) k
    exact hK _ _ (hF a' w' h1 h2))
theorem ltl {id : Nat} {ol : List Oper} (I : List Nat) (h : Fr n l a) (H : HZ w0 Zi Z hl w) (k : wpLate P ol.toArray (HZ w0 Zi Z (deads I hl)) n (fun L H => ∀ a' w', H w' → FrR n L a' w' → Q .normal a' w') (eqs l) (HZ w0 Zi Z hl) ol)
    (hm : P.follows .mixedOrders = true := by kernel_rfl) (hB : lateB ol.toArray = true := by kernel_rfl) : (Code.region id ol.toArray true).wp P Q a w :=
  wp_late (HZ w0 Zi Z (deads I hl)) (HZ w0 Zi Z hl) h hm hB (fun w H => H.deads I) (fun w w' X H => H.ext X) H k
end
end Go.Stp
