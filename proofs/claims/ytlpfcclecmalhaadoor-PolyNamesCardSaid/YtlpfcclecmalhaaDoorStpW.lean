/- The step library, nineteenth part: regions that draw their order, in which a part of a call's results is taken late. -/
import Derived.Test.YtlpfcclecmalhaaDoorStpV
set_option linter.unusedSimpArgs false
set_option linter.unusedVariables false
set_option linter.unusedSectionVars false
namespace Go.Stp
open Go.RowKit

/-- Operations in their order, each of which yields. -/
def tailR (P : Program) (ops : Array Oper) (G : Act → World → Prop) : List Oper → Act → World → Prop
  | [], a, w => G a w
  | o :: rest, a, w => ∃ v w', R1 P ops o a w v w' ∧ tailR P ops G rest (a.put o.dst v) w'

theorem wpFlow_mono {P : Program} {ops : Array Oper} {w1 : World} {n : Nm} {F F' : List (Nat × RL) → List Nat → Prop} (h : ∀ L A, F L A → F' L A) : ∀ {ol : List Oper} {L : List (Nat × RL)} {A : List Nat}, wpFlow P ops w1 n F L A ol → wpFlow P ops w1 n F' L A ol
  | [], _, _, k => h _ _ k
  | _ :: _, _, _, ⟨d, r, fr, h1, h2, h3, h4, k⟩ => ⟨d, r, fr, h1, h2, h3, h4, wpFlow_mono h k⟩
def lateUB (ops : Array Oper) (m : Nat) (U : List Nat) : Bool :=
  flowB ops m && decide (m < ops.size) && Region.chainB .any ops m && ((List.range ops.size).all fun t => (decide (t < m) || (match ops[t]? with | some o => o.after.all fun e => !Region.binds .any e || Nat.blt e.on t | none => false))) &&
  ((List.range m).all fun i => U.contains i || (List.range (m + 1)).any fun j => decide (i < j) && !U.contains j && Region.waitsFor .any ops j i) && Region.noSelect ops &&
  U.all fun i => decide (i < m) && match ops[i]? with
    | some o => (match o.op with | .extract _ _ => true | _ => false) && o.guard.isNone && (List.range ops.size).all fun j => Nat.beq j i || Region.waitsFor .any ops j i || (decide (j < m) && !U.contains j) || match ops[j]? with | some oj => o.apart ops oj | none => false
    | none => false

section
variable {P : Program} {ops : Array Oper} {w1 : World} {n : Nm} {m : Nat}
structure LateU (ops : Array Oper) (m : Nat) (U : List Nat) : Prop where
  flow : FlowOk ops m
  lt : m < ops.size
  chain : Region.chainB .any ops m = true
  back : ∀ t, m ≤ t → t < ops.size → ∀ o, ops[t]? = some o → ∀ e ∈ o.after, Region.binds .any e = true → e.on < t
  sink : ∀ i, i < m → i ∉ U → ∃ j, i < j ∧ j ≤ m ∧ j ∉ U ∧ Region.waitsFor .any ops j i = true
  sel : ∀ (j : Nat) (o : Oper) cs b, ops[j]? = some o → o.op ≠ .select cs b
  pure : ∀ i ∈ U, i < m ∧ ∃ o x k, ops[i]? = some o ∧ o.op = .extract x k ∧ o.guard = none
  apart : ∀ i ∈ U, ∀ o, ops[i]? = some o → ∀ j oj, ops[j]? = some oj → j ≠ i → (m ≤ j ∨ j ∈ U) → (∀ e ∈ oj.after, Region.binds .any e = true → e.on ≠ i) → o.apart ops oj = true
theorem lateUB_ok {U : List Nat} (h : lateUB ops m U = true) : LateU ops m U := by
  simp only [lateUB, Bool.and_eq_true, decide_eq_true_eq] at h
  obtain ⟨⟨⟨⟨⟨⟨h1, h2⟩, h3⟩, h4⟩, h5⟩, h6⟩, h7⟩ := h
  have key : ∀ i ∈ U, i < m ∧ ∃ o x k, ops[i]? = some o ∧ o.op = .extract x k ∧ o.guard = none ∧ ∀ j oj, ops[j]? = some oj → j ≠ i → (m ≤ j ∨ j ∈ U) → (∀ e ∈ oj.after, Region.binds .any e = true → e.on ≠ i) → o.apart ops oj = true := by
    intro i hi
    have h8 := List.all_eq_true.1 h7 i hi
    obtain ⟨h9, h10⟩ := Bool.and_eq_true_iff.1 h8
    refine ⟨by simpa using h9, ?_⟩
    cases ho : ops[i]? with
    | none => rw [ho] at h10; cases h10
    | some o =>
      rw [ho] at h10
      simp only [Bool.and_eq_true] at h10
      obtain ⟨⟨h11, h12⟩, h13⟩ := h10
      have hx : ∃ x k, o.op = .extract x k := by
        split at h11
        · rename_i x k e
          exact ⟨x, k, e⟩
        · cases h11
      obtain ⟨x, k, hx⟩ := hx
      refine ⟨o, x, k, rfl, hx, by simpa using h12, fun j oj hj hne hjm hno => ?_⟩
      have h14 := List.all_eq_true.1 h13 j (List.mem_range.2 (Array.getElem?_eq_some_iff.1 hj).1)
      rw [hj] at h14
      simp only [Bool.or_eq_true] at h14
      rcases h14 with ((h14 | h14) | h14) | h14
      · exact absurd (Nat.eq_of_beq_eq_true h14) hne
      · obtain ⟨o', ho', e, he, hb, hon⟩ := Region.waitsFor_spec h14
        obtain rfl : o' = oj := Option.some.inj (ho'.symm.trans hj)
        exact absurd hon (hno e he hb)
      · obtain ⟨h15, h16⟩ := Bool.and_eq_true_iff.1 h14
        have h15 : j < m := by simpa using h15
        rcases hjm with hjm | hjm
        · omega
        · have : U.contains j = true := List.contains_iff_mem.2 hjm
          rw [this] at h16
          cases h16
      · exact h14
  refine ⟨flowB_ok h1, h2, h3, fun t ht hlt o ho e he hb => ?_, fun i hi hu => ?_, fun j o cs b ho => Region.noSelect_spec h6 j o cs b ho, fun i hi => ?_, fun i hi o ho j oj hj hne hjm hno => ?_⟩
  · have h8 := List.all_eq_true.1 h4 t (List.mem_range.2 hlt)
    rw [ho] at h8
    simp only [Bool.or_eq_true, decide_eq_true_eq] at h8
    rcases h8 with h8 | h8
    · omega
    · have := Array.all_eq_true_iff_forall_mem.1 h8 e he
      simpa [hb, Nat.blt_eq] using this
  · have h8 := List.all_eq_true.1 h5 i (List.mem_range.2 hi)
    rcases Bool.or_eq_true_iff.1 h8 with h8 | h8
    · exact absurd (List.contains_iff_mem.1 h8) hu
    · obtain ⟨j, hj, h9⟩ := List.any_eq_true.1 h8
      simp only [Bool.and_eq_true, decide_eq_true_eq, Bool.not_eq_true'] at h9
      refine ⟨j, h9.1.1, by have := List.mem_range.1 hj; omega, fun hm => ?_, h9.2⟩
      have : U.contains j = true := List.contains_iff_mem.2 hm
      rw [this] at h9
      cases h9.1.2
  · obtain ⟨h8, o, x, k, h9, h10, h11, _⟩ := key i hi
    exact ⟨h8, o, x, k, h9, h10, h11⟩
  · obtain ⟨_, o', x, k, h9, h10, h11, h12⟩ := key i hi
    obtain rfl : o' = o := Option.some.inj (h9.symm.trans ho)
    exact h12 j oj hj hne hjm hno

theorem pureR {o : Oper} {x : Operand} {k d : Nat} {r : RL} {fr : Bool} {a : Act} {w : World} (ho : o.op = .extract x k) (hg : o.guard = none) (hd : o.dst = some d) (hdn : d < a.tmps.size) (h : StepF P ops o fr r a w) :
    ∃ v, (∀ w', R1 P ops o a w' v w') ∧ r.at w.heap.size w.heap.size w v ∧ (fr = true → ∀ b, ownB v = some b → w.heap.size ≤ b ∧ b < w.heap.size) := by
  have hw := wanted_none (ops := ops) (a := a) hg
  rcases h with ⟨h, _⟩ | ⟨_, h⟩
  · rw [hw] at h; cases h
  · have h := h (fun a' w' => ∃ v, Ext w w' ∧ r.at w.heap.size w'.heap.size w' v ∧ (fr = true → ∀ b, ownB v = some b → w.heap.size ≤ b ∧ b < w'.heap.size) ∧ a' = a.put o.dst v ∧ w'.heap.size = w'.heap.size) (fun _ _ _ => False) fun v w' X hv hf => ⟨v, X, hv, hf, rfl, rfl⟩
    have e1 : execOp a.eval o = Instr.extract (a.eval x) k >>= fun v => pure (.value v) := by
      unfold execOp
      rw [ho]
    unfold Oper.wp at h
    rw [e1] at h
    cases hx : a.eval x with
    | tuple vs =>
      rw [hx] at h e1
      cases hv : vs[k]? with
      | none => simp [Instr.extract, hv, stuck, Oper.upon] at h
      | some v0 =>
        have e2 : ∀ w, (execOp a.eval o).run P w = .ok (.value v0) w := fun w => by
          rw [e1]
          simp [Instr.extract, hv]
        simp only [Instr.extract, hv, Sem.run_bind, Sem.run_pure, Result.andThen_ok, Oper.upon_value] at h
        obtain ⟨v, X, h1, h2, h3, _⟩ := h
        have h4 : v0 = v := by
          rw [hd] at h3
          have := congrArg (fun b : Act => b.tmps.getD d undef) h3
          rwa [getD_put_self hdn, getD_put_self hdn] at this
        subst h4
        exact ⟨v0, fun w' => .inr ⟨hw, .inl (e2 w')⟩, h1, h2⟩
    | _ => rw [hx] at h; simp [Instr.extract, stuck, Oper.upon] at h

theorem anyR_tail {F : Act → World → Prop} (hc : Region.chainB .any ops m = true) (hback : ∀ t, m ≤ t → t < ops.size → ∀ o, ops[t]? = some o → ∀ e ∈ o.after, Region.binds .any e = true → e.on < t) :
    ∀ (l : List Oper) (k : Nat) (listed : Array Bool) (a : Act) (w : World), (∀ j, l[j]? = ops[k + j]?) → k + l.length = ops.size → m ≤ k → listed.size = ops.size → (∀ i, i < k → listed.getD i false = true) → (∀ t, k ≤ t → t < ops.size → listed.getD t true = false) →
      tailR P ops F l a w → anyR P ops F l.length listed a w
  | [], k, listed, a, w, hl, hk, hm, hs, h1, h2, H => by
    refine ⟨?_, H⟩
    cases hr : Region.ready .any ops listed with
    | nil => rfl
    | cons t ts =>
      exfalso
      have ht : t ∈ Region.ready .any ops listed := by rw [hr]; simp
      obtain ⟨h3, o, ho, _⟩ := mem_ready.1 ht
      have hlt := (Array.getElem?_eq_some_iff.1 ho).1
      have h4 := h1 t (by simp at hk; omega)
      have := getD_both h3
      rw [h4] at this
      cases this
  | o :: l, k, listed, a, w, hl, hk, hm, hs, h1, h2, H => by
    obtain ⟨v, w', hR, H⟩ := H
    have h0 : ops[k]? = some o := by simpa using (hl 0).symm
    simp only [List.length_cons] at hk ⊢
    have hr := ready_tail hc hback hm (by omega) h1 h2
    refine a_one hr h0 hR rfl (anyR_tail hc hback l (k + 1) _ _ _ (fun j => by have := hl (j + 1); simpa [Nat.add_assoc, Nat.add_comm 1 j] using this) (by omega) (by omega) (by simpa using hs) (fun i hi => ?_) (fun t ht ht' => ?_) H)
    · by_cases hik : i = k
      · subst hik
        have : i < listed.size := by omega
        simp [this]
      · exact getD_set_true (h1 i (by omega))
    · rw [getD_set_ne true (by omega)]
      exact h2 t (by omega) ht'

/-- Where the tail may begin all is done but what is taken late. -/
theorem sink_done {U : List Nat} (L : LateU ops m U) {listed : Array Bool} (inv : HeadInv .any ops m listed) {t : Nat} (ht : m ≤ t) (hr : t ∈ Region.ready .any ops listed) : ∀ (D i : Nat), m - i ≤ D → i < m → i ∉ U → listed.getD i false = true := by
  obtain ⟨hun, o, ho, hall⟩ := mem_ready.1 hr
  have hlt : t < ops.size := (Array.getElem?_eq_some_iff.1 ho).1
  have htm : t = m := by
    rcases Nat.lt_or_ge m t with h | h
    · exfalso
      have h3 := List.all_eq_true.1 L.chain t (List.mem_range.2 hlt)
      simp only [Bool.or_eq_true, decide_eq_true_eq] at h3
      rcases h3 with h3 | h3
      · omega
      · obtain ⟨o', ho', e, he, hb, hon⟩ := Region.waitsFor_spec h3
        obtain rfl : o' = o := Option.some.inj (ho'.symm.trans ho)
        have h4 := hall e he hb
        rw [hon, getD_both (inv.tail (t - 1) (by omega) (by omega))] at h4
        cases h4
    · omega
  subst htm
  intro D
  induction D with
  | zero => intro i h1 h2; omega
  | succ D ih =>
    intro i h1 h2 h3
    obtain ⟨j, h4, h5, h6, h7⟩ := L.sink i h2 h3
    obtain ⟨oj, hoj, e, he, hb, hon⟩ := Region.waitsFor_spec h7
    rcases Nat.lt_or_ge j t with h | h
    · have := ih j (by omega) h h6
      rw [← hon]
      exact inv.closed j oj hoj this e he hb
    · obtain rfl : j = t := by omega
      obtain rfl : oj = o := Option.some.inj (hoj.symm.trans ho)
      rw [← hon]
      exact hall e he hb

theorem wpAny_wayU {Q : Exit → Act → World → Prop} {T : List (Nat × RL × Bool)} {L0 : List (Nat × RL)} {a0 : Act} {U : List Nat} {ol : List Oper} (hol : ops = ol.toArray) (L : LateU ops m U) (hT : T.length = m)
    (hL0 : ∀ s r, lookL L0 s = some r → r.stab ∧ r.holds w1 (a0.tmps.getD s undef))
    (hstep : ∀ k o, k < m → ops[k]? = some o → ∃ d r fr, T[k]? = some (d, r, fr) ∧ o.dst = some d ∧ d < n.n ∧ r.stab ∧
      ∀ a w, Ext w1 w → a.tmps.size = n.n → a.defers = n.ds → FrOn (o.looksAt ops) (ctx L0 (T.take k)) a w → StepF P ops o fr r a w)
    (hend : ∀ listed a w, (∀ i, i < m → listed.getD i false = true) → Way ops m n w1 T a0 listed a w → tailR P ops (fun a w => Q .normal a w) (ol.drop m) a w) :
    ∀ (f : Nat) (listed : Array Bool) (a : Act) (w : World), cnt listed m = f → Way ops m n w1 T a0 listed a w → wpAny P .any ops Q (f + (ol.drop m).length) listed a w := by
  have ok := L.flow
  have hmn : m ≤ ops.size := Nat.le_of_lt L.lt
  have dT : ∀ (j d : Nat) (r : RL) (fr : Bool), T[j]? = some (d, r, fr) → j < m ∧ dstOf ops j = some d := by
    intro j d r fr h
    have hj : j < m := by rw [← hT]; exact (List.getElem?_eq_some_iff.1 h).1
    obtain ⟨o, d', h1, h2, _⟩ := ok.op j hj
    obtain ⟨d'', r'', fr'', h3, h4, _⟩ := hstep j o hj h1
    rw [h3] at h
    simp only [Option.some.injEq, Prod.mk.injEq] at h
    obtain ⟨rfl, _⟩ := h
    exact ⟨hj, by simp [dstOf, h1, h4]⟩
  have sT : ∀ (j d : Nat) (r : RL) (fr : Bool), T[j]? = some (d, r, fr) → r.stab := by
    intro j d r fr h
    obtain ⟨hj, _⟩ := dT j d r fr h
    obtain ⟨o, d', h1, h2, _⟩ := ok.op j hj
    obtain ⟨d'', r'', fr'', h3, h4, _, h5, _⟩ := hstep j o hj h1
    rw [h3] at h
    simp only [Option.some.injEq, Prod.mk.injEq] at h
    rw [← h.2.1]
    exact h5
  -- what an operation that is ready sees
  have hfr : ∀ {listed : Array Bool} {a : Act} {w : World} {i : Nat} {oi : Oper}, Way ops m n w1 T a0 listed a w → i < m → ops[i]? = some oi → listed.getD i false = false → (∀ e ∈ oi.after, Region.binds .any e = true → listed.getD e.on false = true) → FrOn (oi.looksAt ops) (ctx L0 (T.take i)) a w := by
    intro listed a w i oi Wy him hoi hil hall s hs r' hr'
    rcases lookL_ctx _ _ _ _ hr' with ⟨j, fr', hj⟩ | ⟨h1, h2⟩
    · have hji : j < i := by
        have := (List.getElem?_eq_some_iff.1 hj).1
        simp only [List.length_take] at this
        omega
      have hj' : T[j]? = some (s, r', fr') := by rw [List.getElem?_take, if_pos hji] at hj; exact hj
      obtain ⟨hjm, hdj⟩ := dT j s r' fr' hj'
      have hwait := ok.dep j i oi s hji him hoi hdj hs
      obtain ⟨o', ho', e, he, hb, hon⟩ := Region.waitsFor_spec hwait
      obtain rfl : o' = oi := Option.some.inj (ho'.symm.trans hoi)
      have hlj : listed.getD j false = true := by rw [← hon]; exact hall e he hb
      exact Wy.new j s r' fr' hj' hlj
    · obtain ⟨st, ho⟩ := hL0 s r' h2
      have : a.tmps.getD s undef = a0.tmps.getD s undef := by
        refine Wy.old s fun j hj hlj hdj => ?_
        rcases Nat.lt_trichotomy j i with hlt | heq | hgt
        · obtain ⟨oj, dj, h3, h4, _⟩ := ok.op j hj
          obtain ⟨d3, r3, fr3, h5, h6, _⟩ := hstep j oj hj h3
          have : d3 = s := by
            have : dstOf ops j = some d3 := by simp [dstOf, h3, h6]
            rw [this] at hdj
            exact Option.some.inj hdj
          subst this
          exact h1 j d3 r3 fr3 (by rw [List.getElem?_take, if_pos hlt]; exact h5) rfl
        · subst heq
          rw [hil] at hlj
          cases hlj
        · have hwait := ok.anti j i oi s hgt hj hoi hdj hs
          obtain ⟨o', ho', e, he, hb, hon⟩ := Region.waitsFor_spec hwait
          have := Wy.inv.closed j o' ho' hlj e he hb
          rw [hon, hil] at this
          cases this
      rw [this]
      exact st.on Wy.ext ho
  have hlast : ∀ (f : Nat) (listed : Array Bool) (a : Act) (w : World), cnt listed m = f → Way ops m n w1 T a0 listed a w → (∀ i, i < m → i ∉ U → listed.getD i false = true) → anyR P ops (fun a w => Q .normal a w) (f + (ol.drop m).length) listed a w := by
    intro f
    induction f with
    | zero =>
      intro listed a w hc Wy hU
      rw [Nat.zero_add]
      have hall := cnt_zero m hc
      refine anyR_tail L.chain L.back _ m listed a w (fun j => by rw [hol]; simp [List.getElem?_drop]) ?_ (Nat.le_refl _) Wy.inv.size hall Wy.inv.tail (hend listed a w hall Wy)
      rw [hol, List.length_drop]
      have := L.lt
      rw [hol] at this
      simp at this ⊢
      omega
    | succ f ih =>
      intro listed a w hc Wy hU
      rw [show f + 1 + (ol.drop m).length = (f + (ol.drop m).length) + 1 by omega]
      obtain ⟨i, hi, hl, hbefore⟩ := cnt_some m (show 0 < cnt listed m by omega)
      have hiU : i ∈ U := by
        rcases Classical.em (i ∈ U) with h | h
        · exact h
        · have := hU i hi h
          rw [hl] at this
          cases this
      have hun : listed.getD i true = false := getD_in (by rw [Wy.inv.size]; omega) hl
      have hlt : i < listed.size := by rw [Wy.inv.size]; omega
      obtain ⟨_, oi, x, k, hoi, hox, hog⟩ := L.pure i hiU
      obtain ⟨o2, _, h1, _, h3⟩ := ok.op i hi
      obtain rfl : oi = o2 := Option.some.inj (hoi.symm.trans h1)
      have hdeps : ∀ e ∈ oi.after, Region.binds .any e = true → listed.getD e.on false = true := fun e he hb => hbefore _ (h3 e he hb)
      have hr : i ∈ Region.ready .any ops listed := mem_ready.2 ⟨hun, oi, hoi, hdeps⟩
      obtain ⟨d, r, fr, hTi, hd, hdn, hst, hok⟩ := hstep i oi hi hoi
      obtain ⟨v, hv1, hv2, hv3⟩ := pureR hox hog hd (by rw [Wy.size]; exact hdn) (hok a w Wy.ext Wy.size Wy.defers (hfr Wy hi hoi hl hdeps))
      refine anyR_first hoi L.sel _ listed a w (fun j oj hoj hji hjun hno => L.apart i hiU oi hoi j oj hoj hji ?_ hno) hr hv1 (ih _ _ _ ?_ (Way.next ok hmn dT sT Wy hr hi hoi hd hdn hTi v w (Ext.refl _) hv2 hv3) fun j hj hjU => getD_set_true (hU j hj hjU))
      · rcases Nat.lt_or_ge j m with h | h
        · refine .inr ?_
          rcases Classical.em (j ∈ U) with hj | hj
          · exact hj
          · have := hU j h hj
            rw [getD_both hjun] at this
            cases this
        · exact .inl h
      · have := cnt_set hlt hl m hi
        omega
  intro f
  induction f with
  | zero =>
    intro listed a w hc Wy
    exact wpAny_of_anyR _ _ _ _ (hlast 0 listed a w hc Wy fun i hi _ => cnt_zero m hc i hi)
  | succ f ih =>
    intro listed a w hc Wy
    rcases Classical.em (∃ t, m ≤ t ∧ t ∈ Region.ready .any ops listed) with ⟨t, ht, hr⟩ | hno
    · exact wpAny_of_anyR _ _ _ _ (hlast _ listed a w hc Wy fun i hi hU => sink_done L Wy.inv ht hr _ i (Nat.le_refl _) hi hU)
    · rw [show f + 1 + (ol.drop m).length = (f + (ol.drop m).length) + 1 by omega]
      obtain ⟨i0, hi0, hl0, hbefore⟩ := cnt_some m (show 0 < cnt listed m by omega)
      have hun0 : listed.getD i0 true = false := getD_in (by rw [Wy.inv.size]; omega) hl0
      have hr0 : i0 ∈ Region.ready .any ops listed := by
        obtain ⟨o, d, h1, h2, h3⟩ := ok.op i0 hi0
        exact mem_ready.2 ⟨hun0, o, h1, fun e he hb => hbefore _ (h3 e he hb)⟩
      refine ⟨fun h => (by rw [h] at hr0; cases hr0), fun i hi => ?_⟩
      have him : i < m := by
        rcases Nat.lt_or_ge i m with h | h
        · exact h
        · exact absurd ⟨i, h, hi⟩ hno
      obtain ⟨hiun, oi, hoi, hall⟩ := mem_ready.1 hi
      have hil : listed.getD i false = false := getD_both hiun
      obtain ⟨d, r, fr, hTi, hd, hdn, hst, hok⟩ := hstep i oi him hoi
      have hlt : i < listed.size := by rw [Wy.inv.size]; omega
      have next := Way.next ok hmn dT sT Wy hi him hoi hd hdn hTi
      have hc' : cnt (listed.setIfInBounds i true) m = f := by
        have := cnt_set hlt hil m him
        omega
      unfold wpOp
      simp only [hoi]
      rcases hok a w Wy.ext Wy.size Wy.defers (hfr Wy him hoi hil hall) with ⟨hwant, hv⟩ | ⟨hwant, hK⟩
      · rw [if_neg (by rw [hwant]; exact Bool.false_ne_true)]
        exact ih _ _ _ hc' (next undef w (Ext.refl _) hv (fun _ b hb => by simp [ownB, undef] at hb))
      · rw [if_pos hwant]
        left
        exact hK _ _ fun v w' X hv hf => ih _ _ _ hc' (next v w' X hv hf)

theorem tailR_mono {G G' : Act → World → Prop} (h : ∀ a w, G a w → G' a w) : ∀ {l : List Oper} {a : Act} {w : World}, tailR P ops G l a w → tailR P ops G' l a w
  | [], _, _, k => h _ _ k
  | _ :: _, _, _, ⟨v, w', h1, k⟩ => ⟨v, w', h1, tailR_mono h k⟩
theorem wp_flowU {Q : Exit → Act → World → Prop} {a : Act} {w : World} {l : List (Nat × Value)} {id : Nat} {ol : List Oper} (mm : Nat) (U : List Nat) (h : Fr n l a) (hm : P.follows .mixedOrders = true) (hB : lateUB ol.toArray mm U = true)
    (H : wpFlow P ol.toArray w n (fun L A => ∀ a' w', Ext w w' → FrR n L a' w' → Fresh w L A a' w' → tailR P ol.toArray (fun a w => Q .normal a w) (ol.drop mm) a' w') (eqs l) [] (ol.take mm)) : (Code.region id ol.toArray true).wp P Q a w := by
  have L := lateUB_ok hB
  have hmm : mm < ol.length := by simpa using L.lt
  refine wp_region_any hm ?_
  obtain ⟨T, t1, t2, t3⟩ := flow_ex _ _ _ H
  have htl : (ol.take mm).length = mm := by simp; omega
  have inv0 : HeadInv .any ol.toArray mm (Array.replicate ol.toArray.size false) :=
    ⟨by simp, fun j oj _ hl => (by rw [getD_replicate_false] at hl; cases hl), fun t _ ht => getD_in (by simpa using ht) (getD_replicate_false _ _)⟩
  have hstep : ∀ k o, k < mm → ol.toArray[k]? = some o → ∃ d r fr, T[k]? = some (d, r, fr) ∧ o.dst = some d ∧ d < n.n ∧ r.stab ∧
      ∀ a w', Ext w w' → a.tmps.size = n.n → a.defers = n.ds → FrOn (o.looksAt ol.toArray) (ctx (eqs l) (T.take k)) a w' → StepF P ol.toArray o fr r a w' := fun k o hk ho =>
    t2 k o (by rw [List.getElem?_take, if_pos hk]; simpa using ho)
  have nol : ∀ k, (Array.replicate ol.toArray.size false).getD k false = true → False := fun k hk => by rw [getD_replicate_false] at hk; cases hk
  have hc0 : ∀ k, cnt (Array.replicate ol.toArray.size false) k = k := by
    intro k
    induction k with
    | zero => rfl
    | succ k ih => simp only [cnt, ih, getD_replicate_false]; simp
  have hsz : ol.toArray.size = mm + (ol.drop mm).length := by simp; omega
  have h0 : Way ol.toArray mm n w T a (Array.replicate ol.toArray.size false) a { w with drawn := w.drawn + 1 } := ⟨inv0, Ext.drew w, h.size, h.defers, fun _ _ => rfl, fun j d r fr _ hl => (nol j hl).elim, fun j d r _ hl => (nol j hl).elim, fun j d r i d' r' _ _ _ hl => (nol j hl).elim, fun j d R fr _ hl => (nol j hl).elim⟩
  have key := wpAny_wayU (P := P) (Q := Q) (T := T) (L0 := eqs l) (a0 := a) (w1 := w) (n := n) rfl L (by rw [t1, htl]) (fun s r hr => by
    obtain ⟨v, rfl, hv⟩ := lookL_eqs l s r hr
    exact ⟨trivial, h.has _ _ hv⟩) hstep (fun listed a' w' hl Wy => t3 a' w' Wy.ext ⟨Wy.size, Wy.defers, fun s r hr => by
      rcases lookL_ctx _ _ _ _ hr with ⟨j, fr, hj⟩ | ⟨h1, h2⟩
      · have hjm : j < mm := by rw [← htl, ← t1]; exact (List.getElem?_eq_some_iff.1 hj).1
        exact Wy.new j s r fr hj (hl j hjm)
      · obtain ⟨v, rfl, hv⟩ := lookL_eqs l s r h2
        show a'.tmps.getD s undef = v
        rw [Wy.old s fun j hj hlj hdj => ?_]
        · exact h.has _ _ hv
        · obtain ⟨oj, dj, h3, h4, _⟩ := L.flow.op j hj
          obtain ⟨d3, r3, fr3, h5, h6, _⟩ := hstep j oj hj h3
          have : dstOf ol.toArray j = some d3 := by simp only [dstOf, h3, Option.bind_some, h6]
          rw [this] at hdj
          exact h1 j d3 r3 fr3 h5 (Option.some.inj hdj)⟩ ⟨fun s R hr => by
      rcases lookL_ctx _ _ _ _ hr with ⟨j, fr, hj⟩ | ⟨h1, h2⟩
      · have hjm : j < mm := by rw [← htl, ← t1]; exact (List.getElem?_eq_some_iff.1 hj).1
        obtain ⟨lo, hi2, k1, k2, k3, k4⟩ := Wy.iv j s R fr hj (hl j hjm)
        refine ⟨lo, hi2, k1, k3, fun t ht hts b hb => ?_⟩
        rcases mem_ctxA _ _ _ ht with ht | ⟨i, r', hi'⟩
        · cases ht
        · have him : i < mm := by rw [← htl, ← t1]; exact (List.getElem?_eq_some_iff.1 hi').1
          by_cases hji : j = i
          · subst hji
            rw [hj] at hi'
            simp only [Option.some.injEq, Prod.mk.injEq] at hi'
            exact absurd hi'.1.symm hts
          · exact k4 i t r' hi' (hl i him) hji b hb
      · obtain ⟨v, hv, _⟩ := lookL_eqs l s _ h2
        exact (nomatch hv), fun s hs b hb => by
      rcases mem_ctxA _ _ _ hs with hs | ⟨j, r, hj⟩
      · cases hs
      · have hjm : j < mm := by rw [← htl, ← t1]; exact (List.getElem?_eq_some_iff.1 hj).1
        exact Wy.lo j s r hj (hl j hjm) b hb, fun s hs t ht hne b hb => by
      rcases mem_ctxA _ _ _ hs with hs | ⟨j, r, hj⟩
      · cases hs
      · rcases mem_ctxA _ _ _ ht with ht | ⟨i, r', hi'⟩
        · cases ht
        · have hjm : j < mm := by rw [← htl, ← t1]; exact (List.getElem?_eq_some_iff.1 hj).1
          have him : i < mm := by rw [← htl, ← t1]; exact (List.getElem?_eq_some_iff.1 hi').1
          refine Wy.ne j s r i t r' hj hi' (fun e => ?_) (hl j hjm) (hl i him) b hb
          subst e
          rw [hj] at hi'
          simp only [Option.some.injEq, Prod.mk.injEq] at hi'
          exact hne hi'.1⟩) mm _ a _ (hc0 mm) h0
  rwa [← hsz] at key
end
section
variable {P : Program} {ops : Array Oper} {Q : Exit → Act → World → Prop} {G : Act → World → Prop} {n : Nm} {l : List (Nat × Value)} {a : Act} {w : World} {w0 : Bs} {Zi Z : FZ} {hl : List Own} {rest : List Oper} {o : Oper} {d : Nat} {V : Value}
theorem flU {id : Nat} {ol : List Oper} {y : Code} (m : Nat) (U : List Nat) (h : Fr n l a) (H : wpFlow P ol.toArray w n (fun L A => ∀ a' w', Ext w w' → FrR n L a' w' → Fresh w L A a' w' → tailR P ol.toArray (fun a w => y.wp P Q a w) (ol.drop m) a' w') (eqs l) [] (ol.take m))
    (hm : P.follows .mixedOrders = true := by kernel_rfl) (hB : lateUB ol.toArray m U = true := by kernel_rfl) : (Code.seq (.region id ol.toArray true) y).wp P Q a w :=
  wp_seq_k fun K hK => wp_flowU m U h hm hB (by
    refine wpFlow_mono (fun L A hF a' w' X h1 h2 => ?_) H
    exact tailR_mono (fun a w hy => hK a w hy) (hF a' w' X h1 h2))
theorem flUl {id : Nat} {ol : List Oper} (m : Nat) (U : List Nat) (h : Fr n l a) (H : wpFlow P ol.toArray w n (fun L A => ∀ a' w', Ext w w' → FrR n L a' w' → Fresh w L A a' w' → tailR P ol.toArray (fun a w => Q .normal a w) (ol.drop m) a' w') (eqs l) [] (ol.take m))
    (hm : P.follows .mixedOrders = true := by kernel_rfl) (hB : lateUB ol.toArray m U = true := by kernel_rfl) : (Code.region id ol.toArray true).wp P Q a w :=
  wp_flowU m U h hm hB H
theorem tE (k : G a w) : tailR P ops G [] a w := k
theorem t1v (h : Fr n l a) (hd : dstB n.n o = some d) (hv : Val P l w o V) (kk : ∀ a', Fr n ((d, V) :: l) a' → tailR P ops G rest a' w) : tailR P ops G (o :: rest) a w := by
  obtain ⟨h1, h2, h3⟩ := dstB_ok hd
  refine ⟨V, w, R1.val h h1 hv, ?_⟩
  rw [h2]
  exact kk _ (h.put h3 V)
theorem tcps : ∀ (k : Nat) {l l' : List (Nat × Value)} {ol ol' : List Oper} {a : Act}, Fr n l a → cpRun n.n k l ol = some (l', ol') → (∀ a', Fr n l' a' → tailR P ops G ol' a' w) → tailR P ops G ol a w
  | 0, l, l', ol, ol', a, h, e, kk => by
    simp only [cpRun, Option.some.injEq, Prod.mk.injEq] at e
    obtain ⟨rfl, rfl⟩ := e
    exact kk a h
  | k + 1, l, l', [], ol', a, h, e, kk => by cases e
  | k + 1, l, l', o :: ol, ol', a, h, e, kk => by
    simp only [cpRun] at e
    split at e
    · cases e
    · rename_i d hd
      split at e
      · cases e
      · rename_i V hV
        exact t1v h hd (cpV_ok hV) fun a' h' => tcps k h' e kk
variable {t ty e : TypeId} {pos : String} {af : Array Edge} {x y : Operand} {b : Nat} {cs : List Value}
theorem tS (h : Fr n l a) (H : HZ w0 Zi Z hl w) (i : Nat) {k off : Nat} (hs : ∀ w, (sizeOf t).run P w = .ok k w) (vs cs' : List Value) (hl' : List Own) (kk : ∀ w', HZ w0 Zi Z hl' w' → tailR P ops G rest a w')
    (hx : ev l x = some (.pointer (some ⟨b, off, none⟩)) := by rfl) (hy : ev l y = some V := by rfl) (hi : hl[i]? = some (.blk b (Cel cs e)) := by rfl) (hvs : V.cells.toList = vs := by rfl) (hk : vs.length = k := by rfl) (h1 : allOne vs = true := by rfl) (hle : Nat.ble (off + k) cs.length = true := by rfl) (hcs : putAt cs off vs = cs' := by rfl) (hhl : hl.set i (.blk b (Cel cs' e)) = hl' := by rfl) :
    tailR P ops G (⟨none, .store t x y, ty, pos, af, none⟩ :: rest) a w := by
  have hle : off + k ≤ cs.length := by simpa [Nat.ble_eq] using hle
  have hsz : V.cells.size = k := by rw [← hk, ← hvs]; simp
  have e1 : execOp a.eval ⟨none, .store t x y, ty, pos, af, none⟩ = Instr.storeAt t (a.eval x) (a.eval y) >>= fun _ => pure .skip := rfl
  obtain ⟨w', hr, hh, r1, r2, r3, r4, r5⟩ := storeCells_world (P := P) b off e vs 0 cs w (H.hp.get i hi) (by omega) (allOne_mem h1)
  have e2 : (execOp a.eval ⟨none, .store t x y, ty, pos, af, none⟩).run P w = .ok .skip w' := by
    rw [e1, h.ev hx, h.ev hy]
    simp [Instr.storeAt, Instr.sureAddr, storeVar, hs, hsz, hvs, hr]
  rw [Nat.add_zero, hcs] at hh
  have H' := H.hp.turn i hi (.blk b (Cel cs' e)) hh r1 r2 r3 (by omega) (fun b' _ hne => r5 b' (fun e => hne (by rw [e]; rfl))) (fun b' hb' => .inl (by simpa [Own.at] using hb'))
  refine ⟨undef, w', .inr ⟨wanted_none rfl, .inr ⟨e2, rfl⟩⟩, kk w' ?_⟩
  rw [← hhl]
  exact H.turn i hi H' (fun c _ hc => r5 c fun e => hc (by rw [e]; rfl)) (fun c hc => .inl (by simpa [Own.at] using hc))
theorem tS' (h : Fr n l a) (H : HZ w0 Zi Z hl w) (i : Nat) {k off : Nat} (hx : ev l x = some (.pointer (some ⟨b, off, none⟩))) (hy : ev l y = some V) (hi : hl[i]? = some (.blk b (Cel cs e))) (hs : ∀ w, (sizeOf t).run P w = .ok k w) (vs : List Value) (hvs : V.cells.toList = vs) (hk : vs.length = k) (h1 : allOne vs = true) (hle : off + k ≤ cs.length)
    (cs' : List Value) (hcs : putAt cs off vs = cs') {hl' : List Own} (hhl : hl.set i (.blk b (Cel cs' e)) = hl') (kk : ∀ w', HZ w0 Zi Z hl' w' → tailR P ops G rest a w') : tailR P ops G (⟨none, .store t x y, ty, pos, af, none⟩ :: rest) a w :=
  tS h H i hs vs cs' hl' kk hx hy hi hvs hk h1 (by simpa [Nat.ble_eq] using hle) hcs hhl
end
end Go.Stp
