/- The step library, eighth part: regions that draw their order with stores among loads: what asks nothing of the memory is taken first; the rest one order at a time. -/
import Derived.Test.YtlpfcclecmalhaaDoorStpG
set_option linter.unusedSimpArgs false
set_option linter.unusedVariables false
set_option linter.unusedSectionVars false
namespace Go.Stp
open Go.RowKit

section
variable {P : Program} {ops : Array Oper}

/-- Operation o, met in (a, w), leaves v and the world w'; no call. -/
def R1 (P : Program) (ops : Array Oper) (o : Oper) (a : Act) (w : World) (v : Value) (w' : World) : Prop :=
  (Region.wanted o (yielded ops a.tmps) = false ∧ v = undef ∧ w' = w) ∨
  (Region.wanted o (yielded ops a.tmps) = true ∧ ((execOp a.eval o).run P w = .ok (.value v) w' ∨ ((execOp a.eval o).run P w = .ok .skip w' ∧ v = undef)))

theorem R1.put {o : Oper} {v u : Value} {a : Act} {w w' : World} {d : Option Tmp} (hs : ∀ cs b, o.op ≠ .select cs b) (h : ∀ e, d = some e → e ∉ o.looksAt ops) : R1 P ops o (a.put d u) w v w' ↔ R1 P ops o a w v w' := by
  unfold R1
  rw [wanted_put o a d u h, execOp_put o hs a d u h]

/-- Whatever order is taken. -/
def anyR (P : Program) (ops : Array Oper) (F : Act → World → Prop) : Nat → Array Bool → Act → World → Prop
  | 0, listed, a, w => Region.ready .any ops listed = [] ∧ F a w
  | f + 1, listed, a, w => (Region.ready .any ops listed = [] → F a w) ∧
      ∀ i ∈ Region.ready .any ops listed, ∃ o v w', ops[i]? = some o ∧ R1 P ops o a w v w' ∧ anyR P ops F f (listed.setIfInBounds i true) (a.put o.dst v) w'

theorem wpAny_of_anyR {Q : Exit → Act → World → Prop} : ∀ (f : Nat) (listed : Array Bool) (a : Act) (w : World), anyR P ops (fun a w => Q .normal a w) f listed a w → wpAny P .any ops Q f listed a w
  | 0, _, _, _, h => h
  | f + 1, listed, a, w, h => ⟨h.1, fun i hi => by
      obtain ⟨o, v, w', ho, hr, hk⟩ := h.2 i hi
      have ih := wpAny_of_anyR (Q := Q) f _ _ _ hk
      unfold wpOp
      simp only [ho]
      rcases hr with ⟨hw, rfl, rfl⟩ | ⟨hw, hr⟩
      · rw [if_neg (by rw [hw]; exact Bool.false_ne_true)]
        exact ih
      · rw [if_pos hw]
        left
        unfold Oper.wp
        rcases hr with hr | ⟨hr, rfl⟩
        · rw [hr]; exact ih
        · rw [hr]; exact ih⟩

/-- What asks nothing of the memory may be taken first. -/
theorem anyR_first {F : Act → World → Prop} {i : Nat} {oi : Oper} {v : Value} (hi : ops[i]? = some oi) (hsel : ∀ (j : Nat) (o : Oper) cs b, ops[j]? = some o → o.op ≠ .select cs b) :
    ∀ (f : Nat) (listed : Array Bool) (a : Act) (w : World),
      (∀ j oj, ops[j]? = some oj → j ≠ i → listed.getD j true = false → (∀ e ∈ oj.after, Region.binds .any e = true → e.on ≠ i) → oi.apart ops oj = true) →
      i ∈ Region.ready .any ops listed → (∀ w, R1 P ops oi a w v w) →
      anyR P ops F f (listed.setIfInBounds i true) (a.put oi.dst v) w → anyR P ops F (f + 1) listed a w := by
  intro f
  induction f with
  | zero =>
    intro listed a w _ hr hy H
    refine ⟨fun h => (by rw [h] at hr; cases hr), fun j hj => ?_⟩
    by_cases hji : j = i
    · subst hji; exact ⟨oi, v, w, hi, hy w, H⟩
    · have := ready_mono hj hji
      rw [H.1] at this
      cases this
  | succ f ih =>
    intro listed a w hfree hr hy H
    have hun := (mem_ready.1 hr).1
    refine ⟨fun h => (by rw [h] at hr; cases hr), fun j hj => ?_⟩
    by_cases hji : j = i
    · subst hji; exact ⟨oi, v, w, hi, hy w, H⟩
    · obtain ⟨o, v', w', ho, hy', hK'⟩ := H.2 j (ready_mono hj hji)
      obtain ⟨hjun, oj, hoj, hall⟩ := mem_ready.1 hj
      obtain rfl : oj = o := Option.some.inj (hoj.symm.trans ho)
      have hnot : ∀ e ∈ oj.after, Region.binds .any e = true → e.on ≠ i := fun e he hb heq => by
        have h1 := hall e he hb
        rw [heq, getD_both hun] at h1
        cases h1
      obtain ⟨h1, h2, h3⟩ := Oper.apart_spec (hfree j oj hoj hji hjun hnot)
      have hfree' : ∀ k ok, ops[k]? = some ok → k ≠ i → (listed.setIfInBounds j true).getD k true = false →
          (∀ e ∈ ok.after, Region.binds .any e = true → e.on ≠ i) → oi.apart ops ok = true := fun k ok hk hki hun hno => by
        refine hfree k ok hk hki ?_ hno
        by_cases hjk : j = k
        · subst hjk; exact hjun
        · rw [getD_set_ne true hjk] at hun; exact hun
      refine ⟨oj, v', w', hoj, (R1.put (hsel j oj · · hoj) h1).1 hy', ih (listed.setIfInBounds j true) _ w' hfree' (ready_mono hr (Ne.symm hji)) (fun w => (R1.put (hsel i oi · · hi) h3).2 (hy w)) ?_⟩
      rw [Array.setIfInBounds_comm _ _ hji, ← Act.put_comm a v v' h2]
      exact hK'

/-- May it be taken now, and first? -/
def hoistB (ops : Array Oper) (listed : Array Bool) (i : Nat) : Bool := Region.noSelect ops && (Region.ready .any ops listed).contains i && Region.free .any ops listed i
variable {F : Act → World → Prop} {n : Nm} {d : Nat} {l : List (Nat × Value)} {a : Act} {w : World} {V : Value}
theorem a_hoist {f i : Nat} {oi : Oper} {listed listed' : Array Bool} (h : Fr n l a) (hi : ops[i]? = some oi) (hg : oi.guard = none) (hd : oi.dst = some d) (hdn : Nat.blt d n.n = true) (hv : ∀ w, Val P l w oi V) (hb : hoistB ops listed i = true)
    (hl : listed.setIfInBounds i true = listed') (k : ∀ a', Fr n ((d, V) :: l) a' → anyR P ops F f listed' a' w) : anyR P ops F (f + 1) listed a w := by
  simp only [hoistB, Bool.and_eq_true] at hb
  obtain ⟨⟨hsel, hr⟩, hf⟩ := hb
  subst hl
  refine anyR_first hi (Region.noSelect_spec hsel) f listed a w (Region.free_spec hi hf) (by simpa using hr) (fun w => .inr ⟨wanted_none hg, .inl (hv w n a h)⟩) ?_
  rw [hd]
  exact k _ (h.put hdn V)
/-- One at a time. -/
theorem a_step {f : Nat} {listed : Array Bool} {r : List Nat} (hr : Region.ready .any ops listed = r) (hne : r ≠ []) (k : ∀ i ∈ r, ∃ o v w', ops[i]? = some o ∧ R1 P ops o a w v w' ∧ anyR P ops F f (listed.setIfInBounds i true) (a.put o.dst v) w') : anyR P ops F (f + 1) listed a w := by
  subst hr
  exact ⟨fun h => absurd h hne, k⟩
theorem a_end {f : Nat} {listed : Array Bool} (hr : Region.ready .any ops listed = []) (k : F a w) : anyR P ops F f listed a w := by
  cases f with
  | zero => exact ⟨hr, k⟩
  | succ f => exact ⟨fun _ => k, fun i hi => by rw [hr] at hi; cases hi⟩
theorem c_any {Q : Exit → Act → World → Prop} {id : Nat} {ol : List Oper} {y : Code} (hm : P.follows .mixedOrders = true)
    (h : ∀ K : Act → World → Prop, (∀ a w, y.wp P Q a w → K a w) → anyR P ol.toArray (fun a w => Exit.then K Q .normal a w) ol.toArray.size (Array.replicate ol.toArray.size false) a { w with drawn := w.drawn + 1 }) : (Code.seq (.region id ol.toArray true) y).wp P Q a w :=
  wp_seq_k fun K hK => wp_region_any hm (wpAny_of_anyR _ _ _ _ (h K hK))
theorem R1.val {o : Oper} (h : Fr n l a) (hg : o.guard = none) (hv : Val P l w o V) : R1 P ops o a w V w := .inr ⟨wanted_none hg, .inl (hv n a h)⟩
/-- The one operation that may come now. -/
theorem a_one {f i : Nat} {o : Oper} {v : Value} {w' : World} {listed listed' : Array Bool} (hr : Region.ready .any ops listed = [i]) (hi : ops[i]? = some o) (hR : R1 P ops o a w v w') (hl : listed.setIfInBounds i true = listed')
    (k : anyR P ops F f listed' (a.put o.dst v) w') : anyR P ops F (f + 1) listed a w := by
  subst hl
  refine a_step hr (by simp) fun j hj => ?_
  obtain rfl : j = i := by simpa using hj
  exact ⟨o, v, w', hi, hR, k⟩
/-- Either of two. -/
theorem a_two {f i j : Nat} {o o' : Oper} {v v' : Value} {w' w'' : World} {listed : Array Bool} (hr : Region.ready .any ops listed = [i, j]) (hi : ops[i]? = some o) (hj : ops[j]? = some o') (hR : R1 P ops o a w v w') (hR' : R1 P ops o' a w v' w'')
    (k : anyR P ops F f (listed.setIfInBounds i true) (a.put o.dst v) w') (k' : anyR P ops F f (listed.setIfInBounds j true) (a.put o'.dst v') w'') : anyR P ops F (f + 1) listed a w := by
  refine a_step hr (by simp) fun m hm => ?_
  rcases (by simpa using hm : m = i ∨ m = j) with rfl | rfl
  · exact ⟨o, v, w', hi, hR, k⟩
  · exact ⟨o', v', w'', hj, hR', k'⟩
variable {x y : Operand} {t ty : TypeId} {pos : String} {af : Array Edge} {g : Option (Nat × Bool)} {e : TypeId} {k : IntKind} {p : Int} {dd : Option Nat}
/-- The address of an element of a slice that is known. -/
theorem v_idxAddr {b off m cap sz : Nat} (ht : P.underlying t = some (.slice e)) (hs : ∀ w, (sizeOf e).run P w = .ok sz w) (hx : ev l x = some (.slice (some ⟨b, off, none⟩) m cap)) (hy : ev l y = some (.int k p)) (hp : 0 ≤ p ∧ p < m) :
    Val P l w ⟨dd, .indexAddr t x y, ty, pos, af, g⟩ (.pointer (some ⟨b, off + p.toNat * sz, none⟩)) := fun n a h => by
  have e1 : execOp a.eval ⟨dd, .indexAddr t x y, ty, pos, af, g⟩ = Instr.indexAt t (a.eval x) (a.eval y) >>= fun v => pure (.value v) := rfl
  rw [e1, h.ev hx, h.ev hy]
  simp [Instr.indexAt, asIntOf, run_underlying ht, hp, hs, Addr.add_lit]
/-- A store of one cell into a block of cells: what it leaves. -/
theorem r_store1 {o : Oper} {b off : Nat} {cs : List Value} {u : Value} (h : Fr n l a) (ho : o = ⟨none, .store t x y, ty, pos, af, none⟩) (hx : ev l x = some (.pointer (some ⟨b, off, none⟩))) (hy : ev l y = some u) (hu : u.cells.toList = [u]) (h1 : u.oneCell' = true)
    (hs : ∀ w, (sizeOf t).run P w = .ok 1 w) (hb : w.heap[b]? = some (.cells cs.toArray e (0, 0))) (hlt : off < cs.length) :
    ∃ w', R1 P ops o a w undef w' ∧ w'.heap[b]? = some (.cells (cs.set off u).toArray e (0, 0)) ∧ w'.os = w.os ∧ w'.tape = w.tape ∧ w'.output = w.output ∧ w'.heap.size = w.heap.size ∧ ∀ b', b' ≠ b → w'.heap[b']? = w.heap[b']? := by
  subst ho
  obtain ⟨w', hr, hh, r1, r2, r3, r4, r5⟩ := storeCells_world (P := P) b off e [u] 0 cs w hb (by simp; omega) (fun v hv => by simp at hv; subst hv; exact h1)
  have hsz : u.cells.size = 1 := by
    have := congrArg List.length hu
    simpa using this
  have e1 : execOp a.eval ⟨none, .store t x y, ty, pos, af, none⟩ = Instr.storeAt t (a.eval x) (a.eval y) >>= fun _ => pure .skip := rfl
  refine ⟨w', .inr ⟨wanted_none rfl, .inr ⟨?_, rfl⟩⟩, ?_, r1, r2, r3, r4, r5⟩
  · rw [e1, h.ev hx, h.ev hy]
    simp [Instr.storeAt, Instr.sureAddr, storeVar, hs, hsz, hu, hr]
  · rw [hh, Nat.add_zero]
    have : putAt cs off [u] = cs.set off u := by
      rw [List.set_eq_take_append_cons_drop, if_pos hlt]
      simp [putAt]
    rw [this]
end
end Go.Stp
