/- The step library, sixth part: regions that draw their order, whose head lays new variables or hands back one value each, and whose tail stands. -/
import Derived.Test.YtlpfcclecmalhaaDoorStpE
import Derived.StillTail
set_option linter.unusedSimpArgs false
set_option linter.unusedVariables false
set_option linter.unusedSectionVars false
namespace Go.Stp
open Go.RowKit

section
variable {P : Program} {ops : Array Oper} {w1 : World} {π : Nat → Nat} {zo : Nat → Option Obj}

/-- In world w the operation yields v; a call hands back v and lays blocks at most. -/
def Gives (P : Program) (o : Oper) (a : Act) (w : World) (v : Value) : Prop := match (execOp a.eval o).run P w with
  | .ok (.value u) w' => w' = w ∧ u = v
  | .ok .skip w' => w' = w ∧ v = undef
  | .ok (.enter f args) w' => w' = w ∧ P.inits.idxOf? f = none ∧ Calls P f args w (Ret fun u w'' => u = v ∧ Ext w w'')
  | _ => False

theorem Gives.same {o : Oper} {a : Act} {w : World} {v v' : Value} (h : Gives P o a w v) (h' : Gives P o a w v') : v = v' := by
  unfold Gives at h h'
  generalize (execOp a.eval o).run P w = r at h h'
  cases r with
  | halt x w' => exact h.elim
  | ok nx w' =>
    cases nx with
    | value u => exact h.2.symm.trans h'.2
    | skip => exact h.2.trans h'.2.symm
    | enter f args =>
      obtain ⟨_, hi, hc⟩ := h
      obtain ⟨_, _, hc'⟩ := h'
      obtain ⟨n, u, w2, e1, r1⟩ := Calls.done (R := fun u w'' => u = v ∧ Ext w w'') (hc.mono fun e w'' hr => by cases e <;> exact hr) hi
      obtain ⟨m, u', w3, e2, r2⟩ := Calls.done (R := fun u w'' => u = v' ∧ Ext w w'') (hc'.mono fun e w'' hr => by cases e <;> exact hr) hi
      have b1 := runN_ended e1 m
      have b2 := runN_ended e2 n
      rw [Nat.add_comm, b1] at b2
      injection b2 with ho hw
      injection ho with hv
      exact r1.1.symm.trans (hv.trans r2.1)
    | _ => exact h.elim

theorem Gives.wp {o : Oper} {a : Act} {w : World} {v : Value} {K : Act → World → Prop} {Q : Exit → Act → World → Prop} (h : Gives P o a w v) (hK : ∀ w', Ext w w' → K (a.put o.dst v) w') : o.wp P a w K Q := by
  unfold Gives at h
  unfold Oper.wp
  generalize (execOp a.eval o).run P w = r at h ⊢
  cases r with
  | halt x w' => exact h.elim
  | ok nx w' =>
    cases nx with
    | value u =>
      obtain ⟨rfl, rfl⟩ := h
      exact hK _ (Ext.refl _)
    | skip =>
      obtain ⟨rfl, rfl⟩ := h
      exact hK _ (Ext.refl _)
    | enter f args =>
      obtain ⟨rfl, _, hc⟩ := h
      refine hc.mono fun e w'' hr => ?_
      cases e with
      | returned u => obtain ⟨rfl, h2⟩ := hr; exact hK _ h2
      | panicked _ => exact hr.elim
      | outgrown => exact hr.elim
    | _ => exact h.elim

theorem alloc_run {o : Oper} {e : TypeId} {z : Value} {ρ : Operand → Value} {w : World} (he : o.op = .alloc e) (hz : ∀ w, (zeroValue e).run P w = .ok z w) :
    (execOp ρ o).run P w = .ok (.value (.pointer (some ⟨w.heap.size, 0, none⟩))) (w.alloc (Cel z.cells.toList e)) := by
  obtain ⟨d, op, ty, pos, af, g⟩ := o
  simp only at he
  subst he
  have e1 : execOp ρ ⟨d, .alloc e, ty, pos, af, g⟩ = Instr.alloc e true (.tuple #[]) >>= fun v => pure (.value v) := rfl
  rw [e1]
  simp [Instr.alloc, hz, newVar, newRow]

/-- Operation number i, met in state a, leaves v: nothing, its guard barring it; one value in every world on the way; a new variable, whose block is π i. -/
def YA (P : Program) (ops : Array Oper) (w1 : World) (π : Nat → Nat) (zo : Nat → Option Obj) (i : Nat) (o : Oper) (v : Value) (a : Act) : Prop :=
  (Region.wanted o (yielded ops a.tmps) = false ∧ zo i = none ∧ v = undef) ∨
  (Region.wanted o (yielded ops a.tmps) = true ∧ zo i = none ∧ ∀ w, Ext w1 w → Gives P o a w v) ∨
  (Region.wanted o (yielded ops a.tmps) = true ∧ ∃ e z, o.op = .alloc e ∧ (∀ w, (zeroValue e).run P w = .ok z w) ∧ zo i = some (Cel z.cells.toList e) ∧ v = .pointer (some ⟨π i, 0, none⟩))

theorem YA.put {i : Nat} {o : Oper} {v u : Value} {a : Act} {d : Option Tmp} (hs : ∀ cs b, o.op ≠ .select cs b) (h : ∀ e, d = some e → e ∉ o.looksAt ops) :
    YA P ops w1 π zo i o v (a.put d u) ↔ YA P ops w1 π zo i o v a := by
  unfold YA Gives
  rw [wanted_put o a d u h, execOp_put o hs a d u h]

/-- The operations in the order of the text. -/
def wpN (P : Program) (ops : Array Oper) (w1 : World) (π : Nat → Nat) (zo : Nat → Option Obj) (F : Act → Prop) : Nat → List Oper → Act → Prop
  | _, [], a => F a
  | k, o :: rest, a => ∃ v, YA P ops w1 π zo k o v a ∧ wpN P ops w1 π zo F (k + 1) rest (a.put o.dst v)

/-- The head in whatever order. -/
def anyN (P : Program) (ops : Array Oper) (w1 : World) (π : Nat → Nat) (zo : Nat → Option Obj) (n : Nat) (K : Array Bool → Act → Prop) : Nat → Array Bool → Act → Prop
  | 0, listed, a => K listed a
  | f + 1, listed, a => Region.ready .any ops listed ≠ [] ∧ ∀ i ∈ Region.ready .any ops listed, i < n ∧ ∃ o v, ops[i]? = some o ∧ YA P ops w1 π zo i o v a ∧ anyN P ops w1 π zo n K f (listed.setIfInBounds i true) (a.put o.dst v)

theorem wpN_mono {F F' : Act → Prop} (h : ∀ a, F a → F' a) : ∀ (l : List Oper) (k : Nat) (a : Act), wpN P ops w1 π zo F k l a → wpN P ops w1 π zo F' k l a
  | [], _, a, hh => h a hh
  | _ :: l, k, _, ⟨v, h1, h2⟩ => ⟨v, h1, wpN_mono h l (k + 1) _ h2⟩

theorem anyN_first {n i : Nat} {oi : Oper} {v : Value} {K : Array Bool → Act → Prop} (hi : ops[i]? = some oi) (hsel : ∀ (j : Nat) (o : Oper) cs b, ops[j]? = some o → o.op ≠ .select cs b)
    (hs : Region.sinkB .any ops n = true) (hc : Region.chainB .any ops n = true) (hn : n < ops.size) (hin : i < n) (hdone : ∀ listed a, K listed a → ∀ j ∈ Region.ready .any ops listed, n ≤ j) :
    ∀ (f : Nat) (listed : Array Bool) (a : Act), HeadInv .any ops n listed →
      (∀ j oj, ops[j]? = some oj → j ≠ i → listed.getD j true = false → (∀ e ∈ oj.after, Region.binds .any e = true → e.on ≠ i) → oi.apart ops oj = true) →
      i ∈ Region.ready .any ops listed → YA P ops w1 π zo i oi v a →
      anyN P ops w1 π zo n K f (listed.setIfInBounds i true) (a.put oi.dst v) → anyN P ops w1 π zo n K (f + 1) listed a := by
  intro f
  induction f with
  | zero =>
    intro listed a inv _ hr hy H
    have hun := (mem_ready.1 hr).1
    refine ⟨fun h => (by rw [h] at hr; cases hr), fun j hj => ?_⟩
    have hjn : j < n := by
      rcases Nat.lt_or_ge j n with h | h
      · exact h
      · exact absurd hj (tail_waits hs hc hn inv _ i rfl hin hun j h)
    refine ⟨hjn, ?_⟩
    by_cases hji : j = i
    · subst hji; exact ⟨oi, v, hi, hy, H⟩
    · have := hdone _ _ H j (ready_mono hj hji)
      omega
  | succ f ih =>
    intro listed a inv hfree hr hy H
    have hun := (mem_ready.1 hr).1
    refine ⟨fun h => (by rw [h] at hr; cases hr), fun j hj => ?_⟩
    have hjn : j < n := by
      rcases Nat.lt_or_ge j n with h | h
      · exact h
      · exact absurd hj (tail_waits hs hc hn inv _ i rfl hin hun j h)
    refine ⟨hjn, ?_⟩
    by_cases hji : j = i
    · subst hji; exact ⟨oi, v, hi, hy, H⟩
    · obtain ⟨o, v', ho, hy', hK'⟩ := (H.2 j (ready_mono hj hji)).2
      obtain ⟨hjun, oj, hoj, hall⟩ := mem_ready.1 hj
      obtain rfl : oj = o := Option.some.inj (hoj.symm.trans ho)
      have hnot : ∀ e ∈ oj.after, Region.binds .any e = true → e.on ≠ i := fun e he hb heq => by
        have h1 := hall e he hb
        rw [heq, getD_both hun] at h1
        cases h1
      obtain ⟨h1, h2, h3⟩ := Oper.apart_spec (hfree j oj hoj hji hjun hnot)
      have hfree' : ∀ k ok, ops[k]? = some ok → k ≠ i → (listed.setIfInBounds j true).getD k true = false →
          (∀ e ∈ ok.after, Region.binds .any e = true → e.on ≠ i) → oi.apart ops ok = true := fun k ok hk hki hun hno => by
        refine hfree k ok hk hki ?_ hno
        by_cases hjk : j = k
        · subst hjk; exact hjun
        · rw [getD_set_ne true hjk] at hun; exact hun
      refine ⟨oj, v', hoj, (YA.put (hsel j oj · · hoj) h1).1 hy', ih (listed.setIfInBounds j true) _ (inv.set hj hjn) hfree' (ready_mono hr (Ne.symm hji)) ((YA.put (hsel i oi · · hi) h3).2 hy) ?_⟩
      rw [Array.setIfInBounds_comm _ _ hji, ← Act.put_comm a v v' h2]
      exact hK'

theorem anyN_lex {n g : Nat} {F : Act → Prop} (hsel : Region.noSelect ops = true) (hs : Region.sinkB .any ops n = true) (hc : Region.chainB .any ops n = true) (hn : n < ops.size) :
    ∀ (l : List Oper) (k : Nat) (listed : Array Bool) (a : Act), (∀ j, j < l.length → l[j]? = ops[k + j]?) → k + l.length = n → HeadInv .any ops n listed →
    Region.lexHead .any ops g l.length k listed = true → wpN P ops w1 π zo F k l a →
    anyN P ops w1 π zo n (fun listed' a' => Region.seqB .any ops g n listed' = true ∧ F a') l.length listed a
  | [], k, listed, a, _, hk, _, hB, h => by
    have : k = n := by simpa using hk
    subst this
    exact ⟨by simpa [Region.lexHead] using hB, h⟩
  | o :: l, k, listed, a, hl, hk, inv, hB, h => by
    have h0 : ops[k]? = some o := by simpa using (hl 0 (by simp)).symm
    simp only [List.length_cons, Region.lexHead, Bool.and_eq_true] at hB
    obtain ⟨⟨hr, hf⟩, hB'⟩ := hB
    have hkn : k < n := by simp only [List.length_cons] at hk; omega
    have hr' : k ∈ Region.ready .any ops listed := by simpa using hr
    obtain ⟨v, hy, hK⟩ := h
    exact anyN_first h0 (Region.noSelect_spec hsel) hs hc hn hkn (fun listed' a' hL => seqB_ready hL.1) l.length listed a inv (Region.free_spec h0 hf) hr' hy
      (anyN_lex hsel hs hc hn l (k + 1) _ _ (fun j hj => by have := hl (j + 1) (by simp; omega); simpa [Nat.add_assoc, Nat.add_comm 1 j] using this) (by simp only [List.length_cons] at hk; omega) (inv.set hr' hkn) hB' hK)

/-- Blocks for the new variables: behind all that there was, each its own. -/
def Good (w1 : World) (zo : Nat → Option Obj) (π : Nat → Nat) : Prop := (∀ i, w1.heap.size ≤ π i) ∧ ∀ i j, zo i ≠ none → zo j ≠ none → i ≠ j → π i ≠ π j

theorem good_of {listed : Array Bool} {w : World} {ρ : Nat → Nat} (X : Ext w1 w) (hb : ∀ i o, listed.getD i false = true → zo i = some o → w.heap[ρ i]? = some o ∧ w1.heap.size ≤ ρ i)
    (hd : ∀ i j, listed.getD i false = true → listed.getD j false = true → zo i ≠ none → zo j ≠ none → i ≠ j → ρ i ≠ ρ j) : ∃ π, Good w1 zo π ∧ (∀ i, listed.getD i false = true → zo i ≠ none → π i = ρ i) := by
  have lt : ∀ k, listed.getD k false = true → zo k ≠ none → ρ k < w.heap.size := fun k h1 h2 => by
    obtain ⟨o, ho⟩ := Option.ne_none_iff_exists'.1 h2
    exact (Array.getElem?_eq_some_iff.1 (hb k o h1 ho).1).1
  refine ⟨fun i => if listed.getD i false = true ∧ zo i ≠ none then ρ i else w.heap.size + i, ⟨fun i => ?_, fun i j hi hj hij => ?_⟩, fun i hi hz => by simp only; rw [if_pos ⟨hi, hz⟩]⟩
  · simp only
    split
    · rename_i h
      obtain ⟨o, ho⟩ := Option.ne_none_iff_exists'.1 h.2
      exact (hb i o h.1 ho).2
    · have := X.size; omega
  · simp only
    split <;> split
    · rename_i h1 h2; exact hd i j h1.1 h2.1 hi hj hij
    · rename_i h1 h2; have := lt i h1.1 hi; omega
    · rename_i h1 h2; have := lt j h2.1 hj; omega
    · omega

theorem set_cases {listed : Array Bool} {i k : Nat} (h : (listed.setIfInBounds i true).getD k false = true) : k = i ∨ listed.getD k false = true := by
  by_cases hk : i = k
  · exact .inl hk.symm
  · rw [getD_set_ne false hk] at h
    exact .inr h

theorem wpAny_of_anyN {n g : Nat} {F : (Nat → Nat) → Act → Prop} {Q : Exit → Act → World → Prop} (hg : 0 < g) (hs : Region.sinkB .any ops n = true) (hc : Region.chainB .any ops n = true) (hn : n < ops.size)
    (hF : ∀ π, Good w1 zo π → ∀ listed a w, Ext w1 w → (∀ i o, i < n → zo i = some o → w.heap[π i]? = some o) → Region.seqB .any ops g n listed = true → F π a → wpAny P .any ops Q g listed a w) :
    ∀ (f : Nat) (listed : Array Bool) (a : Act) (w : World) (ρ : Nat → Nat), HeadInv .any ops n listed → Ext w1 w →
      (∀ i o, listed.getD i false = true → zo i = some o → w.heap[ρ i]? = some o ∧ w1.heap.size ≤ ρ i) →
      (∀ i j, listed.getD i false = true → listed.getD j false = true → zo i ≠ none → zo j ≠ none → i ≠ j → ρ i ≠ ρ j) →
      (∀ π, Good w1 zo π → (∀ i, listed.getD i false = true → zo i ≠ none → π i = ρ i) → anyN P ops w1 π zo n (fun listed' a' => Region.seqB .any ops g n listed' = true ∧ F π a') f listed a) →
      wpAny P .any ops Q (f + g) listed a w := by
  intro f
  induction f with
  | zero =>
    intro listed a w ρ inv X hb hd H
    rw [Nat.zero_add]
    obtain ⟨π, hG, hag⟩ := good_of X hb hd
    obtain ⟨h1, h2⟩ := H π hG hag
    refine hF π hG listed a w X (fun i o hi hz => ?_) h1 h2
    have hli : listed.getD i false = true := by
      cases hh : listed.getD i false with
      | true => rfl
      | false =>
        exfalso
        have hun : listed.getD i true = false := getD_in (by rw [inv.size]; omega) hh
        have hw := tail_waits hs hc hn inv _ i rfl hi hun
        obtain ⟨g', rfl⟩ : ∃ g', g = g' + 1 := ⟨g - 1, by omega⟩
        simp only [Region.seqB, Bool.and_eq_true, decide_eq_true_eq] at h1
        exact hw n (Nat.le_refl _) (by rw [h1.1]; simp)
    rw [hag i hli (by rw [hz]; simp)]
    exact (hb i o hli hz).1
  | succ f ih =>
    intro listed a w ρ inv X hb hd H
    obtain ⟨π0, hG0, hag0⟩ := good_of X hb hd
    have H0 := H π0 hG0 hag0
    rw [show f + 1 + g = (f + g) + 1 by omega]
    refine ⟨fun h0 => absurd h0 H0.1, fun i hi => ?_⟩
    obtain ⟨hin, oi, v, hoi, hy, _⟩ := H0.2 i hi
    have hun := getD_both (mem_ready.1 hi).1
    have self : (listed.setIfInBounds i true).getD i false = true := by
      have hlt : i < listed.size := by rw [inv.size]; omega
      simp [hlt]
    have key : ∀ π, Good w1 zo π → (∀ k, listed.getD k false = true → zo k ≠ none → π k = ρ k) →
        ∃ v', YA P ops w1 π zo i oi v' a ∧ anyN P ops w1 π zo n (fun listed' a' => Region.seqB .any ops g n listed' = true ∧ F π a') f (listed.setIfInBounds i true) (a.put oi.dst v') := fun π hG hag => by
      obtain ⟨_, o, v', ho, hy', hK⟩ := (H π hG hag).2 i hi
      obtain rfl : oi = o := Option.some.inj (hoi.symm.trans ho)
      exact ⟨v', hy', hK⟩
    unfold wpOp
    simp only [hoi]
    rcases hy with ⟨hw, hz, rfl⟩ | ⟨hw, hz, hq⟩ | ⟨hw, e, z, hop, hzv, hz, rfl⟩
    · rw [if_neg (by rw [hw]; exact Bool.false_ne_true)]
      refine ih _ _ w ρ (inv.set hi hin) X (fun k o hk ho => ?_) (fun k m hk hm hzk hzm hne => ?_) fun π hG hag => ?_
      · rcases set_cases hk with rfl | hk
        · rw [hz] at ho; cases ho
        · exact hb k o hk ho
      · rcases set_cases hk with rfl | hk
        · exact absurd hz hzk
        · rcases set_cases hm with rfl | hm
          · exact absurd hz hzm
          · exact hd k m hk hm hzk hzm hne
      · obtain ⟨v', hy', hK⟩ := key π hG fun k hk hzk => hag k (getD_set_true hk) hzk
        rcases hy' with ⟨_, _, rfl⟩ | ⟨hw', _⟩ | ⟨hw', _⟩
        · exact hK
        · rw [hw] at hw'; cases hw'
        · rw [hw] at hw'; cases hw'
    · rw [if_pos hw]
      left
      refine (hq w X).wp fun w' X' => ?_
      refine ih _ _ w' ρ (inv.set hi hin) (X.trans X') (fun k o hk ho => ?_) (fun k m hk hm hzk hzm hne => ?_) fun π hG hag => ?_
      · rcases set_cases hk with rfl | hk
        · rw [hz] at ho; cases ho
        · exact ⟨X'.block (hb k o hk ho).1, (hb k o hk ho).2⟩
      · rcases set_cases hk with rfl | hk
        · exact absurd hz hzk
        · rcases set_cases hm with rfl | hm
          · exact absurd hz hzm
          · exact hd k m hk hm hzk hzm hne
      · obtain ⟨v', hy', hK⟩ := key π hG fun k hk hzk => hag k (getD_set_true hk) hzk
        rcases hy' with ⟨hw', _⟩ | ⟨_, _, hq'⟩ | ⟨_, _, _, _, _, hz', _⟩
        · rw [hw] at hw'; cases hw'
        · obtain rfl := (hq' w X).same (hq w X)
          exact hK
        · rw [hz] at hz'; cases hz'
    · rw [if_pos hw]
      left
      unfold Oper.wp
      rw [alloc_run hop hzv]
      have ltr : ∀ k, listed.getD k false = true → zo k ≠ none → ρ k < w.heap.size := fun k h1 h2 => by
        obtain ⟨o, ho⟩ := Option.ne_none_iff_exists'.1 h2
        exact (Array.getElem?_eq_some_iff.1 (hb k o h1 ho).1).1
      have nei : ∀ k, listed.getD k false = true → k ≠ i := fun k hk e => by rw [e, hun] at hk; cases hk
      refine ih _ _ (w.alloc (Cel z.cells.toList e)) (fun k => if k = i then w.heap.size else ρ k) (inv.set hi hin) (X.trans (Ext.alloc _ _)) (fun k o hk ho => ?_) (fun k m hk hm hzk hzm hne => ?_) fun π hG hag => ?_
      · by_cases hki : k = i
        · subst hki
          rw [hz] at ho
          cases ho
          simp only [if_true]
          exact ⟨heap_alloc_new w _, X.size⟩
        · simp only [if_neg hki]
          rcases set_cases hk with h | hk
          · exact absurd h hki
          · exact ⟨(Ext.alloc w _).block (hb k o hk ho).1, (hb k o hk ho).2⟩
      · by_cases hki : k = i <;> by_cases hmi : m = i
        · omega
        · have := ltr m ((set_cases hm).resolve_left hmi) hzm
          simp only [if_pos hki, if_neg hmi]
          omega
        · have := ltr k ((set_cases hk).resolve_left hki) hzk
          simp only [if_neg hki, if_pos hmi]
          omega
        · simp only [if_neg hki, if_neg hmi]
          exact hd k m ((set_cases hk).resolve_left hki) ((set_cases hm).resolve_left hmi) hzk hzm hne
      · obtain ⟨v', hy', hK⟩ := key π hG fun k hk hzk => by
          have := hag k (getD_set_true hk) hzk
          simp only [if_neg (nei k hk)] at this
          exact this
        rcases hy' with ⟨hw', _⟩ | ⟨_, hz', _⟩ | ⟨_, _, _, _, _, _, rfl⟩
        · rw [hw] at hw'; cases hw'
        · rw [hz] at hz'; cases hz'
        · have := hag i self (by rw [hz]; simp)
          simp only [if_true] at this
          rw [this] at hK
          exact hK

/-- The new variables of a region: the operation's number, what its block holds. -/
def zoL : List (Nat × Obj) → Nat → Option Obj
  | [], _ => none
  | (j, o) :: r, i => bif Nat.beq i j then some o else zoL r i

theorem wp_region_tail {id : Nat} {Q : Exit → Act → World → Prop} {a : Act} {w : World} {l : List Oper} (n : Nat) (zo : Nat → Option Obj) (hm : P.follows .mixedOrders = true) (hB : Region.lexTailB .any l.toArray n = true)
    (h : ∀ π, Good w zo π → wpN P l.toArray w π zo (fun a' => ∀ w', Ext w w' → (∀ i o, i < n → zo i = some o → w'.heap[π i]? = some o) → wpList P l.toArray Q (l.drop n) a' w') 0 (l.take n) a) : (Code.region id l.toArray true).wp P Q a w := by
  simp only [Region.lexTailB, Bool.and_eq_true, decide_eq_true_eq] at hB
  obtain ⟨⟨⟨⟨hsel, hn⟩, hs⟩, hc⟩, hlex⟩ := hB
  have hn' : n < l.length := by simpa using hn
  have htl : (l.take n).length = n := by simp; omega
  have hdl : (l.drop n).length = l.toArray.size - n := by simp
  have inv0 : HeadInv .any l.toArray n (Array.replicate l.toArray.size false) :=
    ⟨by simp, fun j oj _ hl => (by rw [getD_replicate_false] at hl; cases hl), fun t _ ht => getD_in (by simpa using ht) (getD_replicate_false _ _)⟩
  refine wp_region_any hm ?_
  have nol : ∀ k, (Array.replicate l.toArray.size false).getD k false = true → False := fun k hk => by rw [getD_replicate_false] at hk; cases hk
  have := wpAny_of_anyN (P := P) (w1 := w) (zo := zo) (Q := Q) (g := l.toArray.size - n) (F := fun π a' => ∀ w', Ext w w' → (∀ i o, i < n → zo i = some o → w'.heap[π i]? = some o) → wpList P l.toArray Q (l.drop n) a' w')
    (by omega) hs hc hn (fun π _ listed a' w' X hb h1 h2 => by
      have := wpAny_of_seq (md := .any) (Q' := Q) (l.drop n) n listed a' w' (fun j => by simp [List.getElem?_drop]) (by rw [hdl]; exact h1) (h2 w' X hb)
      rwa [hdl] at this)
    (l.take n).length _ a { w with drawn := w.drawn + 1 } (fun _ => 0) inv0 (Ext.drew w) (fun i o hi => (nol i hi).elim) (fun i j hi => (nol i hi).elim)
    (fun π hG _ => anyN_lex (g := l.toArray.size - n) hsel hs hc hn (l.take n) 0 _ a (fun j hj => by
      have hj' : j < n := by rw [htl] at hj; exact hj
      simp [hj']) (by simpa using htl) inv0 (by rw [htl]; exact hlex) (h π hG))
  rw [htl, show n + (l.toArray.size - n) = l.toArray.size by omega] at this
  exact this
end
end Go.Stp

/-! ### the steps -/
namespace Go.Stp
open Go.RowKit
section
variable {P : Program} {ops : Array Oper} {Q : Exit → Act → World → Prop} {w1 : World} {π : Nat → Nat} {zo : Nat → Option Obj} {ki : Nat} {F : Act → Prop} {rest : List Oper} {o : Oper} {n : Nm} {d dn : Nat} {l : List (Nat × Value)} {a : Act} {w : World} {w0 : Bs} {hl : List Own} {V : Value}

theorem tn (h : F a) : wpN P ops w1 π zo F ki [] a := h
theorem t_gen (h : Fr n l a) (hz : zo ki = none) (hd : o.dst = some d) (hdn : Nat.blt d n.n = true) (hw : Region.wanted o (yielded ops a.tmps) = true) (hv : ∀ w, Ext w1 w → Gives P o a w V)
    (k : ∀ a', Fr n ((d, V) :: l) a' → wpN P ops w1 π zo F (ki + 1) rest a') : wpN P ops w1 π zo F ki (o :: rest) a :=
  ⟨V, .inr (.inl ⟨hw, hz, hv⟩), by rw [hd]; exact k _ (h.put hdn V)⟩
theorem t_skip (h : Fr n l a) (hz : zo ki = none) (hd : o.dst = some d) (hdn : Nat.blt d n.n = true) (hw : Region.wanted o (yielded ops a.tmps) = false)
    (k : ∀ a', Fr n ((d, undef) :: l) a' → wpN P ops w1 π zo F (ki + 1) rest a') : wpN P ops w1 π zo F ki (o :: rest) a :=
  ⟨undef, .inl ⟨hw, hz, rfl⟩, by rw [hd]; exact k _ (h.put hdn undef)⟩
theorem Val.gives (hv : Val P l w o V) (h : Fr n l a) : Gives P o a w V := by
  unfold Gives
  rw [hv n a h]
  exact ⟨rfl, rfl⟩
theorem t1 (h : Fr n l a) (hz : zo ki = none) (hg : o.guard = none) (hd : o.dst = some d) (hdn : Nat.blt d n.n = true) (hv : ∀ w, Ext w1 w → Val P l w o V)
    (k : ∀ a', Fr n ((d, V) :: l) a' → wpN P ops w1 π zo F (ki + 1) rest a') : wpN P ops w1 π zo F ki (o :: rest) a :=
  t_gen h hz hd hdn (wanted_none hg) (fun w hw => (hv w hw).gives h) k
theorem t1b {B : Bool} (h : Fr n l a) (hz : zo ki = none) (hg : o.guard = none) (hd : o.dst = some d) (hdn : Nat.blt d n.n = true) (hv : ∀ w, Ext w1 w → Val P l w o (.bool B))
    (k : ∀ b, b = B → ∀ a', Fr n ((d, .bool b) :: l) a' → wpN P ops w1 π zo F (ki + 1) rest a') : wpN P ops w1 π zo F ki (o :: rest) a :=
  t1 h hz hg hd hdn hv (k B rfl)
theorem t_g {j g : Nat} {b c : Bool} (h : Fr n l a) (hz : zo ki = none) (hg : o.guard = some (j, b)) (hj : (ops[j]?).bind (·.dst) = some g) (hgv : Wants l g b c) (hd : o.dst = some d) (hdn : Nat.blt d n.n = true)
    (hv : c = true → ∀ w, Ext w1 w → Val P l w o V) (k : ∀ a', Fr n ((d, gw c V) :: l) a' → wpN P ops w1 π zo F (ki + 1) rest a') : wpN P ops w1 π zo F ki (o :: rest) a := by
  obtain ⟨U, hU, hc⟩ := hgv
  have hw := wanted_val h hg hj hU
  rw [hc] at hw
  cases c with
  | true => exact t_gen h hz hd hdn hw (fun w hw => (hv rfl w hw).gives h) k
  | false => exact t_skip h hz hd hdn hw k
theorem t_gb {j g : Nat} {b c B : Bool} (h : Fr n l a) (hz : zo ki = none) (hg : o.guard = some (j, b)) (hj : (ops[j]?).bind (·.dst) = some g) (hgv : Wants l g b c) (hd : o.dst = some d) (hdn : Nat.blt d n.n = true)
    (hv : c = true → ∀ w, Ext w1 w → Val P l w o (.bool B)) (k : ∀ r, r = B → ∀ a', Fr n ((d, gw c (.bool r)) :: l) a' → wpN P ops w1 π zo F (ki + 1) rest a') : wpN P ops w1 π zo F ki (o :: rest) a :=
  t_g h hz hg hj hgv hd hdn hv (k B rfl)


/-- A call that hands back one value, whatever the memory, and lays blocks at most. -/
def TCall (P : Program) (l : List (Nat × Value)) (w : World) (o : Oper) (V : Value) : Prop := ∀ n a, Fr n l a → Gives P o a w V
theorem t_call {d : Option Nat} {ty : TypeId} {pos : String} {af : Array Edge} {g : Option (Nat × Bool)} {f : FuncId} {xs : Array Operand} {ats : Array TypeId} (vs : List Value) (he : evs l xs.toList = some vs) (hc : ∀ as w, (callFunc f as).run P w = .ok (.enter f as) w)
    (hi : P.inits.idxOf? f = none) (hq : Calls P f vs.toArray w (Ret fun v w' => v = V ∧ Ext w w')) : TCall P l w ⟨d, .call { callee := .value (.func f), args := xs, argTypes := ats }, ty, pos, af, g⟩ V := fun n a h => by
  have e1 : execOp a.eval ⟨d, .call { callee := .value (.func f), args := xs, argTypes := ats }, ty, pos, af, g⟩ = callFunc f (#[] ++ xs.map a.eval ++ #[]) := rfl
  have e2 : (#[] ++ xs.map a.eval ++ #[] : Array Value) = vs.toArray := by rw [h.evsA he]; simp
  unfold Gives
  rw [e1, e2, hc]
  exact ⟨rfl, hi, hq⟩
theorem t_callV {d : Option Nat} {ty : TypeId} {pos : String} {af : Array Edge} {g : Option (Nat × Bool)} {x : Operand} {f : FuncId} {xs : Array Operand} {ats : Array TypeId} {fst cap : Array Value} (vs : List Value) (hf : ev l x = some (.func (.func f) fst cap)) (he : evs l xs.toList = some vs)
    (hc : ∀ as w, (callFunc f as).run P w = .ok (.enter f as) w) (as : List Value) (has : fst.toList ++ vs ++ cap.toList = as)
    (hi : P.inits.idxOf? f = none) (hq : Calls P f as.toArray w (Ret fun v w' => v = V ∧ Ext w w')) : TCall P l w ⟨d, .call { callee := .value x, args := xs, argTypes := ats }, ty, pos, af, g⟩ V := fun n a h => by
  have e1 : execOp a.eval ⟨d, .call { callee := .value x, args := xs, argTypes := ats }, ty, pos, af, g⟩ = (do let d ← Deferred.ofValue (a.eval x) (xs.map a.eval); invoke d.target d.args) := rfl
  have e3 : ((do let d ← Deferred.ofValue (a.eval x) (xs.map a.eval); invoke d.target d.args) : Sem Next).run P w = .ok (.enter f as.toArray) w := by
    rw [h.ev hf, h.evsA he]
    simp only [Deferred.ofValue, Sem.run_bind, Sem.run_pure, Result.andThen_ok, invoke, hc]
    subst has
    simp
  unfold Gives
  rw [e1, e3]
  exact ⟨rfl, hi, hq⟩
theorem t2 (h : Fr n l a) (hz : zo ki = none) (hg : o.guard = none) (hd : o.dst = some d) (hdn : Nat.blt d n.n = true) (hv : ∀ w, Ext w1 w → TCall P l w o V)
    (k : ∀ a', Fr n ((d, V) :: l) a' → wpN P ops w1 π zo F (ki + 1) rest a') : wpN P ops w1 π zo F ki (o :: rest) a :=
  t_gen h hz hd hdn (wanted_none hg) (fun w hw => hv w hw n a h) k
theorem t2b {B : Bool} (h : Fr n l a) (hz : zo ki = none) (hg : o.guard = none) (hd : o.dst = some d) (hdn : Nat.blt d n.n = true) (hv : ∀ w, Ext w1 w → TCall P l w o (.bool B))
    (k : ∀ b, b = B → ∀ a', Fr n ((d, .bool b) :: l) a' → wpN P ops w1 π zo F (ki + 1) rest a') : wpN P ops w1 π zo F ki (o :: rest) a :=
  t2 h hz hg hd hdn hv (k B rfl)
theorem t_gd {j g : Nat} {b c : Bool} (h : Fr n l a) (hz : zo ki = none) (hg : o.guard = some (j, b)) (hj : (ops[j]?).bind (·.dst) = some g) (hgv : Wants l g b c) (hd : o.dst = some d) (hdn : Nat.blt d n.n = true)
    (hv : c = true → ∀ w, Ext w1 w → TCall P l w o V) (k : ∀ a', Fr n ((d, gw c V) :: l) a' → wpN P ops w1 π zo F (ki + 1) rest a') : wpN P ops w1 π zo F ki (o :: rest) a := by
  obtain ⟨U, hU, hc⟩ := hgv
  have hw := wanted_val h hg hj hU
  rw [hc] at hw
  cases c with
  | true => exact t_gen h hz hd hdn hw (fun w hw => hv rfl w hw n a h) k
  | false => exact t_skip h hz hd hdn hw k
theorem t_gdb {j g : Nat} {b c B : Bool} (h : Fr n l a) (hz : zo ki = none) (hg : o.guard = some (j, b)) (hj : (ops[j]?).bind (·.dst) = some g) (hgv : Wants l g b c) (hd : o.dst = some d) (hdn : Nat.blt d n.n = true)
    (hv : c = true → ∀ w, Ext w1 w → TCall P l w o (.bool B)) (k : ∀ r, r = B → ∀ a', Fr n ((d, gw c (.bool r)) :: l) a' → wpN P ops w1 π zo F (ki + 1) rest a') : wpN P ops w1 π zo F ki (o :: rest) a :=
  t_gd h hz hg hj hgv hd hdn hv (k B rfl)


/-! ### elements -/
variable {x y : Operand} {t ty : TypeId} {pos : String} {af : Array Edge} {gd : Option (Nat × Bool)} {e : TypeId} {k : IntKind} {p : Int} {α : Type} {enc : α → List Value} {sz : Nat} {data : List α}
/-- The same where the region draws its order. -/
theorem t_idx (h : Fr n l a) (hz : zo ki = none) (ht : P.underlying t = some (.slice e)) (hs : ∀ w, (sizeOf e).run P w = .ok sz w) (hx : ev l x = some V) (hy : ev l y = some (.int k p))
    (hr : Reads w V sz enc data) (henc : ∀ a, (enc a).length = sz) (da : α) (hp : 0 ≤ p) (hda : data[p.toNat]? = some da) (hd : Nat.blt dn n.n = true)
    (kk : ∀ a' V', At w V' enc da 0 → Fr n ((dn, V') :: l) a' → wpN P ops w1 π zo F (ki + 1) rest a') :
    wpN P ops w1 π zo F ki (⟨some dn, .indexAddr t x y, ty, pos, af, none⟩ :: rest) a := by
  obtain ⟨V', h1, h2⟩ := idx_val (P := P) (l := l) (dn := dn) (ty := ty) (pos := pos) (af := af) (gd := none) true ht hs (fun _ => hx) (fun _ => hy) hr henc da (fun _ => hp) (fun _ => hda)
  exact t1 h hz rfl rfl hd (fun w _ => h1 rfl w) (fun a' h' => kk a' V' (h2 rfl) h')
theorem t_field {da : α} {jo : Nat} {fs : Array Field} {f : Field} {i kz j' : Nat} (h : Fr n l a) (hz : zo ki = none) (hx : ev l x = some V) (hA : At w V enc da jo) (hu : P.underlying t = some (.struct fs)) (hf : fs.toList[i]? = some f)
    (hs : ∀ w, (sizeOf f.type).run P w = .ok kz w) (hk : Nat.ble 1 kz = true) (hjj : jo + f.offset = j') (hd : Nat.blt dn n.n = true)
    (kk : ∀ a' V', At w V' enc da j' → Fr n ((dn, V') :: l) a' → wpN P ops w1 π zo F (ki + 1) rest a') :
    wpN P ops w1 π zo F ki (⟨some dn, .fieldAddr t x i, ty, pos, af, none⟩ :: rest) a := by
  obtain ⟨V', h1, h2⟩ := field_val (P := P) (l := l) (dn := dn) (ty := ty) (pos := pos) (af := af) (gd := none) true (fun _ => hx) (fun _ => hA) hu hf hs hk hjj
  exact t1 h hz rfl rfl hd (fun w _ => h1 rfl w) (fun a' h' => kk a' V' (h2 rfl) h')
theorem t_idxG {j g : Nat} {b c : Bool} (h : Fr n l a) (hz : zo ki = none) (hj : (ops[j]?).bind (·.dst) = some g) (hgv : Wants l g b c) (ht : P.underlying t = some (.slice e)) (hs : ∀ w, (sizeOf e).run P w = .ok sz w) (hx : c = true → ev l x = some V) (hy : c = true → ev l y = some (.int k p))
    (hr : Reads w V sz enc data) (henc : ∀ a, (enc a).length = sz) (da : α) (hp : c = true → 0 ≤ p) (hda : c = true → data[p.toNat]? = some da) (hd : Nat.blt dn n.n = true)
    (kk : ∀ a' V', (c = true → At w V' enc da 0) → Fr n ((dn, gw c V') :: l) a' → wpN P ops w1 π zo F (ki + 1) rest a') :
    wpN P ops w1 π zo F ki (⟨some dn, .indexAddr t x y, ty, pos, af, some (j, b)⟩ :: rest) a := by
  obtain ⟨V', h1, h2⟩ := idx_val (P := P) (l := l) (dn := dn) (ty := ty) (pos := pos) (af := af) (gd := some (j, b)) c ht hs hx hy hr henc da hp hda
  exact t_g h hz rfl hj hgv rfl hd (fun hc w _ => h1 hc w) (fun a' h' => kk a' V' h2 h')
theorem t_fieldG {j g : Nat} {b c : Bool} {da : α} {jo : Nat} {fs : Array Field} {f : Field} {i kz j' : Nat} (h : Fr n l a) (hz : zo ki = none) (hj : (ops[j]?).bind (·.dst) = some g) (hgv : Wants l g b c) (hx : c = true → ev l x = some V) (hA : c = true → At w V enc da jo) (hu : P.underlying t = some (.struct fs)) (hf : fs.toList[i]? = some f)
    (hs : ∀ w, (sizeOf f.type).run P w = .ok kz w) (hk : Nat.ble 1 kz = true) (hjj : jo + f.offset = j') (hd : Nat.blt dn n.n = true)
    (kk : ∀ a' V', (c = true → At w V' enc da j') → Fr n ((dn, gw c V') :: l) a' → wpN P ops w1 π zo F (ki + 1) rest a') :
    wpN P ops w1 π zo F ki (⟨some dn, .fieldAddr t x i, ty, pos, af, some (j, b)⟩ :: rest) a := by
  obtain ⟨V', h1, h2⟩ := field_val (P := P) (l := l) (dn := dn) (ty := ty) (pos := pos) (af := af) (gd := some (j, b)) c hx hA hu hf hs hk hjj
  exact t_g h hz rfl hj hgv rfl hd (fun hc w _ => h1 hc w) (fun a' h' => kk a' V' h2 h')

/-- A new variable in a head whose order is drawn: its block is known by its number alone. -/
theorem t_alloc (h : Fr n l a) {z : Value} (hz : ∀ w, (zeroValue e).run P w = .ok z w) (zs : List Value) (hzs : z.cells.toList = zs) (hzo : zo ki = some (Cel zs e)) (hd : Nat.blt dn n.n = true)
    (kk : ∀ a', Fr n ((dn, .pointer (some ⟨π ki, 0, none⟩)) :: l) a' → wpN P ops w1 π zo F (ki + 1) rest a') :
    wpN P ops w1 π zo F ki (⟨some dn, .alloc e, ty, pos, af, none⟩ :: rest) a :=
  ⟨_, .inr (.inr ⟨wanted_none rfl, e, z, rfl, hz, by rw [hzs]; exact hzo, rfl⟩), kk _ (h.put hd _)⟩
end

theorem Own.at_lt {w0 : Bs} {w : World} {hl : List Own} (H : Hp w0 hl w) : ∀ x ∈ hl, ∀ b, x.at = some b → b < w.heap.size := fun x hx b hb => by
  obtain ⟨i, hi⟩ := List.getElem?_of_mem hx
  exact Own.holds_lt (H.own i x hi) b hb
/-- One thing more, that lies elsewhere than all else. -/
theorem Hp.add {w0 : Bs} {w : World} {hl : List Own} (H : Hp w0 hl w) (o : Own) (ho : o.holds w) (hlo : ∀ b, o.at = some b → w0.heap.size ≤ b ∨ b ∈ w0.L) (hn : ∀ x ∈ hl, ∀ b, x.at = some b → o.at ≠ some b) : Hp w0 (hl ++ [o]) w := by
  have key : ∀ (i : Nat) (x : Own), (hl ++ [o])[i]? = some x → (hl[i]? = some x ∧ i < hl.length) ∨ (i = hl.length ∧ x = o) := by
    intro i x e
    rw [List.getElem?_append] at e
    split at e
    · exact .inl ⟨e, by assumption⟩
    · rename_i hlt
      have : i - hl.length = 0 := by
        have := (List.getElem?_eq_some_iff.1 e).1
        simp at this
        omega
      rw [this] at e
      simp at e
      exact .inr ⟨by omega, e.symm⟩
  refine ⟨H.below, fun i x e => ?_, fun i x e => ?_, fun i j x y hx hy hij b hb => ?_⟩
  · rcases key i x e with ⟨e, _⟩ | ⟨_, rfl⟩
    · exact H.own i x e
    · exact ho
  · rcases key i x e with ⟨e, _⟩ | ⟨_, rfl⟩
    · exact H.lo i x e
    · exact hlo
  · rcases key i x hx with ⟨ex, _⟩ | ⟨ei, rfl⟩ <;> rcases key j y hy with ⟨ey, _⟩ | ⟨ej, rfl⟩
    · exact H.apart i j x y ex ey hij b hb
    · exact hn x (List.mem_of_getElem? ex) b hb
    · intro e
      exact hn y (List.mem_of_getElem? ey) b e hb
    · omega
theorem Hp.adds {w0 : Bs} {w : World} (B : Nat) : ∀ (bs : List (Nat × Obj)) (hl : List Own), Hp w0 hl w → (∀ p ∈ bs, w0.heap.size ≤ p.1 ∧ w.heap[p.1]? = some p.2) → (∀ x ∈ hl, ∀ b, x.at = some b → ∀ p ∈ bs, p.1 ≠ b) →
    bs.Pairwise (fun p q => p.1 ≠ q.1) → Hp w0 (hl ++ bs.map fun p => .blk p.1 p.2) w
  | [], hl, H, _, _, _ => by simpa using H
  | p :: bs, hl, H, hb, hn, hd => by
    have H1 : Hp w0 (hl ++ [.blk p.1 p.2]) w := H.add (.blk p.1 p.2) (hb p (by simp)).2 (fun b e => by simp only [Own.at, Option.some.injEq] at e; subst e; exact .inl (hb p (by simp)).1) fun x hx b hxb e => hn x hx b hxb p (by simp) (by simpa [Own.at] using e)
    have H2 := Hp.adds B bs (hl ++ [.blk p.1 p.2]) H1 (fun q hq => hb q (by simp [hq])) (fun x hx b hxb q hq => by
      rcases List.mem_append.1 hx with hx | hx
      · exact hn x hx b hxb q (by simp [hq])
      · simp only [List.mem_singleton] at hx
        subst hx
        simp only [Own.at, Option.some.injEq] at hxb
        subst hxb
        exact fun e => (List.pairwise_cons.1 hd).1 q hq e.symm) (List.pairwise_cons.1 hd).2
    simpa using H2

theorem zoL_mem : ∀ (al : List (Nat × Obj)) (i : Nat) (o : Obj), zoL al i = some o → (i, o) ∈ al
  | (j, o') :: r, i, o, h => by
    unfold zoL at h
    cases hj : Nat.beq i j with
    | true =>
      rw [hj] at h
      simp only [cond_true, Option.some.injEq] at h
      have := Nat.eq_of_beq_eq_true hj
      subst h this
      simp
    | false =>
      rw [hj] at h
      simp only [cond_false] at h
      simp [zoL_mem r i o h]
/-- Each number once, and all below n. -/
def alOk (n : Nat) : List (Nat × Obj) → Bool
  | [] => true
  | (j, _) :: r => Nat.blt j n && r.all (fun q => !Nat.beq q.1 j) && alOk n r
theorem alOk_spec {n : Nat} : ∀ {al : List (Nat × Obj)}, alOk n al = true → (∀ p ∈ al, p.1 < n ∧ zoL al p.1 = some p.2) ∧ al.Pairwise (fun p q => p.1 ≠ q.1)
  | [], _ => ⟨fun p hp => by simp at hp, .nil⟩
  | (j, o) :: r, h => by
    simp only [alOk, Bool.and_eq_true, List.all_eq_true, Bool.not_eq_true'] at h
    obtain ⟨⟨h1, h2⟩, h3⟩ := h
    obtain ⟨i1, i2⟩ := alOk_spec h3
    have ne : ∀ q ∈ r, j ≠ q.1 := fun q hq e => by
      have := h2 q hq
      rw [e, Nat.beq_refl] at this
      cases this
    refine ⟨fun p hp => ?_, List.pairwise_cons.2 ⟨fun q hq => ne q hq, i2⟩⟩
    rcases List.mem_cons.1 hp with rfl | hp
    · exact ⟨by simpa [Nat.blt_eq] using h1, by simp [zoL, Nat.beq_refl]⟩
    · refine ⟨(i1 p hp).1, ?_⟩
      have : Nat.beq p.1 j = false := by
        cases hb : Nat.beq p.1 j with
        | false => rfl
        | true => exact absurd (Nat.eq_of_beq_eq_true hb).symm (ne p hp)
      simp only [zoL, this, cond_false]
      exact (i1 p hp).2

section
variable {P : Program} {Q : Exit → Act → World → Prop} {a : Act} {w : World} {w0 : Bs} {hl : List Own}
/-- A region that draws its order: in the head (n operations) each hands back one value or lays a variable ('al': its number, what its block holds); the tail stands in its order. -/
theorem c_tail {id : Nat} {ol : List Oper} {y : Code} (H : Hp w0 hl w) (n : Nat) (al : List (Nat × Obj)) (hal : alOk n al = true) (hm : P.follows .mixedOrders = true) (hB : Region.lexTailB .any ol.toArray n = true)
    (h : ∀ (K : Act → World → Prop), (∀ a w, y.wp P Q a w → K a w) → ∀ π : Nat → Nat, (∀ i, w.heap.size ≤ π i) →
      wpN P ol.toArray w π (zoL al) (fun a' => ∀ w', Ext w w' → Hp w0 (hl ++ al.map fun p => .blk (π p.1) p.2) w' → wpList P ol.toArray (Exit.then K Q) (ol.drop n) a' w') 0 (ol.take n) a) :
    (Code.seq (.region id ol.toArray true) y).wp P Q a w := by
  refine wp_seq_k fun K hK => wp_region_tail n (zoL al) hm hB fun π hG => ?_
  refine wpN_mono (fun a' hk w' X hb => hk w' X ?_) _ _ _ (h K hK π hG.1)
  obtain ⟨a1, a2⟩ := alOk_spec hal
  have := Hp.adds 0 (al.map fun p => (π p.1, p.2)) hl (H.ext X) (fun p hp => by
      obtain ⟨q, hq, rfl⟩ := List.mem_map.1 hp
      exact ⟨Nat.le_trans H.below.size (hG.1 _), hb q.1 q.2 (a1 q hq).1 (a1 q hq).2⟩) (fun x hx b hxb p hp => by
      obtain ⟨q, hq, rfl⟩ := List.mem_map.1 hp
      have h1 := Own.at_lt H x hx b hxb
      have h2 := hG.1 q.1
      simp only
      omega) (List.pairwise_map.2 (a2.imp_of_mem fun {p q} hp hq hne => by
        simp only
        exact hG.2 p.1 q.1 (by rw [(a1 p hp).2]; simp) (by rw [(a1 q hq).2]; simp) hne))
  rw [List.map_map] at this
  exact this
end
end Go.Stp
