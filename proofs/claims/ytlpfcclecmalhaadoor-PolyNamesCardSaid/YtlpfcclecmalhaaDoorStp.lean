/- A step library: one lemma for each operation, in continuation style, over any program: the frame is known by a list of slots, the call's own blocks by a list of blocks. Nothing here names a program. -/
import Derived.WalkKit
import Derived.WalkSpells
import Derived.WalkLawsBesides
import Derived.Orders
import Derived.Scope
set_option linter.unusedSimpArgs false
set_option linter.unusedVariables false
set_option linter.unusedSectionVars false
namespace Go.Stp
open Go.RowKit

/-! ### the frame -/
def look : List (Nat × Value) → Nat → Option Value
  | [], _ => none
  | (k, v) :: l, i => bif Nat.beq k i then some v else look l i

/-- How many slots an activation has, and which calls it has put off. -/
structure Nm where
  n : Nat
  ds : List Deferred
instance (k : Nat) : OfNat Nm k := ⟨⟨k, []⟩⟩
instance : Coe Nat Nm := ⟨fun k => ⟨k, []⟩⟩
structure Fr (n : Nm) (l : List (Nat × Value)) (a : Act) : Prop where
  size : a.tmps.size = n.n
  defers : a.defers = n.ds
  has : ∀ i v, look l i = some v → a.tmps.getD i undef = v

def ev (l : List (Nat × Value)) : Operand → Option Value
  | .tmp t => look l t
  | .const v => some v
  | .global g => some (.pointer (some ⟨g, 0, none⟩))
  | .func f => some (.func (.func f) #[] #[])

def evs (l : List (Nat × Value)) : List Operand → Option (List Value)
  | [] => some []
  | x :: xs => match ev l x, evs l xs with
    | some v, some vs => some (v :: vs)
    | _, _ => none

section
variable {n : Nm} {l : List (Nat × Value)} {a : Act}

theorem Fr.ev (h : Fr n l a) {x : Operand} {v : Value} (e : ev l x = some v) : a.eval x = v := by
  cases x with
  | tmp t => exact h.has _ _ e
  | const v => simpa [Stp.ev, Act.eval] using e
  | global g => simpa [Stp.ev, Act.eval] using e
  | func f => simpa [Stp.ev, Act.eval] using e

theorem Fr.evs (h : Fr n l a) : ∀ {xs : List Operand} {vs : List Value}, evs l xs = some vs → xs.map a.eval = vs
  | [], vs, e => by simpa [Stp.evs] using e
  | x :: xs, vs, e => by
    simp only [Stp.evs] at e
    split at e
    · rename_i v ws hv hws
      simp only [Option.some.injEq] at e
      subst e
      simp [h.ev hv, h.evs hws]
    · cases e

theorem Fr.evsA (h : Fr n l a) {xs : Array Operand} {vs : List Value} (e : Stp.evs l xs.toList = some vs) : xs.map a.eval = vs.toArray := by
  rw [← h.evs e]
  apply Array.toList_inj.1
  simp

theorem Fr.put (h : Fr n l a) {d : Nat} (hd : Nat.blt d n.n = true) (v : Value) : Fr n ((d, v) :: l) (a.put (some d) v) := by
  have hd' : d < n.n := by simpa [Nat.blt_eq] using hd
  refine ⟨by simp [Act.put, h.size], by simp [Act.put, h.defers], fun i u e => ?_⟩
  simp only [look] at e
  by_cases hi : d = i
  · subst hi
    simp at e
    subst e
    simp [Act.put, Array.getD_eq_getD_getElem?, h.size, hd']
  · have : Nat.beq d i = false := by
      cases hb : Nat.beq d i with
      | false => rfl
      | true => exact absurd (Nat.eq_of_beq_eq_true hb) hi
    rw [this] at e
    simp only [cond_false] at e
    rw [← h.has i u e]
    simp [Act.put, Array.getD_eq_getD_getElem?, hi]

/-- Some slots alone: a shorter list. -/
theorem Fr.keep (h : Fr n l a) (l' : List (Nat × Value)) (hs : ∀ p ∈ l', look l p.1 = some p.2) : Fr n l' a := by
  refine ⟨h.size, h.defers, fun i v e => ?_⟩
  have key : ∀ (m : List (Nat × Value)), look m i = some v → ∃ p ∈ m, p = (i, v) := by
    intro m
    induction m with
    | nil => intro e; cases e
    | cons q m ih =>
      obtain ⟨k, u⟩ := q
      intro e
      simp only [look] at e
      cases hb : Nat.beq k i with
      | true =>
        rw [hb] at e
        simp at e
        have := Nat.eq_of_beq_eq_true hb
        exact ⟨(k, u), by simp, by rw [this, e]⟩
      | false =>
        rw [hb] at e
        simp at e
        obtain ⟨p, hp, hpe⟩ := ih e
        exact ⟨p, by simp [hp], hpe⟩
  obtain ⟨p, hp, rfl⟩ := key l' e
  exact h.has _ _ (hs _ hp)

def allLook (l : List (Nat × Value)) : List (Nat × Value) → Prop
  | [] => True
  | p :: m => look l p.1 = some p.2 ∧ allLook l m

theorem allLook_mem : ∀ {m : List (Nat × Value)}, allLook l m → ∀ p ∈ m, look l p.1 = some p.2
  | q :: m, h, p, hp => by
    cases hp with
    | head => exact h.1
    | tail _ hp => exact allLook_mem h.2 p hp

theorem Fr.cut (h : Fr n l a) (l' : List (Nat × Value)) (hs : allLook l l') : Fr n l' a := h.keep l' (allLook_mem hs)

/-- The slots of a list, kept: by their numbers. -/
def pickS (l : List (Nat × Value)) : List Nat → List (Nat × Value)
  | [] => []
  | i :: is => match look l i with
    | some v => (i, v) :: pickS l is
    | none => pickS l is
theorem pickS_mem : ∀ {is : List Nat} (p : Nat × Value), p ∈ pickS l is → look l p.1 = some p.2
  | i :: is, p, h => by
    simp only [pickS] at h
    split at h
    · rename_i v hv
      cases h with
      | head => exact hv
      | tail _ h => exact pickS_mem p h
    · exact pickS_mem p h
theorem Fr.only (h : Fr n l a) (is : List Nat) {l' : List (Nat × Value)} (e : pickS l is = l') : Fr n l' a := by
  subst e
  exact h.keep _ pickS_mem
end

/-! ### what one operation does -/
/-- It yields V in this world, and leaves it. -/
def Val (P : Program) (l : List (Nat × Value)) (w : World) (o : Oper) (V : Value) : Prop :=
  ∀ (n : Nm) a, Fr n l a → (execOp a.eval o).run P w = .ok (.value V) w

/-- It ends in a value and a world of which R holds. -/
def Does (P : Program) (l : List (Nat × Value)) (w : World) (o : Oper) (R : Value → World → Prop) : Prop :=
  ∀ (n : Nm) a, Fr n l a → ∀ (K : Act → World → Prop) (Q : Exit → Act → World → Prop), (∀ v w', R v w' → K (a.put o.dst v) w') → o.wp P a w K Q

/-- What a call hands back: a value and a world of which R holds; it does not panic. -/
def Ret (R : Value → World → Prop) : Ending → World → Prop
  | .returned v, w => R v w
  | _, _ => False

section
variable {P : Program} {ops : Array Oper} {Q : Exit → Act → World → Prop} {rest : List Oper} {o : Oper} {n : Nm} {d : Nat} {l : List (Nat × Value)} {a : Act} {w : World} {V : Value}

theorem Val.does (h : Val P l w o V) : Does P l w o (fun v w' => v = V ∧ w' = w) := fun n a hf K Q hk => by
  unfold Oper.wp
  rw [h n a hf]
  exact hk _ _ ⟨rfl, rfl⟩

theorem st1 (h : Fr n l a) (hg : o.guard = none) (hd : o.dst = some d) (hdn : Nat.blt d n.n = true) (hv : Val P l w o V)
    (k : ∀ a', Fr n ((d, V) :: l) a' → wpList P ops Q rest a' w) : wpList P ops Q (o :: rest) a w := by
  refine wpList_plain hg fun K hK => ?_
  unfold Oper.wp
  rw [hv n a h]
  refine hK _ _ ?_
  rw [hd]
  exact k _ (h.put hdn V)

theorem st2 {R : Value → World → Prop} (h : Fr n l a) (hg : o.guard = none) (hd : o.dst = some d) (hdn : Nat.blt d n.n = true) (hv : Does P l w o R)
    (k : ∀ v w', R v w' → ∀ a', Fr n ((d, v) :: l) a' → wpList P ops Q rest a' w') : wpList P ops Q (o :: rest) a w := by
  refine wpList_plain hg fun K hK => ?_
  refine hv n a h K Q fun v w' hr => hK _ _ ?_
  rw [hd]
  exact k v w' hr _ (h.put hdn v)

theorem st0 {R : Value → World → Prop} (h : Fr n l a) (hg : o.guard = none) (hd : o.dst = none) (hv : Does P l w o R)
    (k : ∀ w', (∃ v, R v w') → ∀ a', Fr n l a' → wpList P ops Q rest a' w') : wpList P ops Q (o :: rest) a w := by
  refine wpList_plain hg fun K hK => ?_
  refine hv n a h K Q fun v w' hr => hK _ _ ?_
  rw [hd]
  exact k w' ⟨v, hr⟩ _ h

/-- A truth value, under a name of its own. -/
theorem st1b {B : Bool} (h : Fr n l a) (hg : o.guard = none) (hd : o.dst = some d) (hdn : Nat.blt d n.n = true) (hv : Val P l w o (.bool B))
    (k : ∀ b, b = B → ∀ a', Fr n ((d, .bool b) :: l) a' → wpList P ops Q rest a' w) : wpList P ops Q (o :: rest) a w :=
  st1 h hg hd hdn hv (k B rfl)

end

/-! ### code -/
section
variable {P : Program} {Q : Exit → Act → World → Prop} {n : Nm} {l : List (Nat × Value)} {a : Act} {w : World}

/-- region, then y: behind the region's last operation: 'hK'. -/
theorem c_region {id : Nat} {ol : List Oper} {y : Code} (h : ∀ K : Act → World → Prop, (∀ a w, y.wp P Q a w → K a w) → wpList P ol.toArray (Exit.then K Q) ol a w) :
    (Code.seq (.region id ol.toArray false) y).wp P Q a w :=
  wp_seq_k fun K hK => wp_region_lit (h K hK)

theorem c_nil {ops : Array Oper} {y : Code} {K : Act → World → Prop} (hK : ∀ a w, y.wp P Q a w → K a w) (h : y.wp P Q a w) : wpList P ops (Exit.then K Q) [] a w := hK _ _ h

theorem c_lregion {id : Nat} {ol : List Oper} (h : wpList P ol.toArray Q ol a w) : (Code.region id ol.toArray false).wp P Q a w := wp_region_lit h
theorem c_lnil {ops : Array Oper} (h : Q .normal a w) : wpList P ops Q [] a w := h

/-- The jumps that pass a construct by. -/
def Others (Q Q' : Exit → Act → World → Prop) (id : Option Nat) : Prop := ∀ e a w, e ≠ .normal → (∀ i, id = some i → e ≠ .exit i) → Q e a w → Q' e a w

theorem Others.ret {Q Q' : Exit → Act → World → Prop} {id : Option Nat} (h : Others Q Q' id) {C : Act → World → Prop} (k : ∀ a w, C a w → Q .ret a w) : ∀ a w, C a w → Q' .ret a w :=
  fun a w c => h _ a w (by simp) (by simp) (k a w c)
theorem Others.exit {Q Q' : Exit → Act → World → Prop} {id : Option Nat} (h : Others Q Q' id) {i : Nat} (hi : (match id with | some j => Nat.beq j i | none => false) = false) {C : Act → World → Prop}
    (k : ∀ a w, C a w → Q (.exit i) a w) : ∀ a w, C a w → Q' (.exit i) a w :=
  fun a w c => h _ a w (by simp) (by
    intro j hj e
    subst hj
    simp only [Exit.exit.injEq] at e
    subst e
    simp at hi) (k a w c)

theorem Others.goto {Q Q' : Exit → Act → World → Prop} {id : Option Nat} (h : Others Q Q' id) {i : Nat} {C : Act → World → Prop} (k : ∀ a w, C a w → Q (.goto i) a w) : ∀ a w, C a w → Q' (.goto i) a w :=
  fun a w c => h _ a w (by simp) (by simp) (k a w c)

/-- x, then y, C holding between. -/
theorem c_seq {x y : Code} (C : Act → World → Prop) (hy : ∀ a w, C a w → y.wp P Q a w) (hx : ∀ Q', (∀ a w, C a w → Q' .normal a w) → Others Q Q' none → x.wp P Q' a w) : (Code.seq x y).wp P Q a w :=
  wp_seq (hx _ (fun a w c => hy a w c) (fun e a w hn _ h => by cases e <;> first | exact h | exact absurd rfl hn))

/-- A block, then y, C holding between (also where the block is left by its own exit). -/
theorem c_block {id : Nat} {x y : Code} (C : Act → World → Prop) (hy : ∀ a w, C a w → y.wp P Q a w)
    (hx : ∀ Q', (∀ a w, C a w → Q' .normal a w) → (∀ a w, C a w → Q' (.exit id) a w) → Others Q Q' (some id) → x.wp P Q' a w) : (Code.seq (.block id x) y).wp P Q a w :=
  wp_seq (wp_block (hx _ (fun a w c => hy a w c) (fun a w c => by simpa [Exit.inBlock, Exit.then] using hy a w c) (fun e a w hn hi h => by
    cases e with
    | normal => exact absurd rfl hn
    | exit j =>
      have : j ≠ id := fun e => hi id rfl (by rw [e])
      simpa [Exit.inBlock, Exit.then, this] using h
    | goto _ => exact h
    | ret => exact h
    | panic _ => exact h
    | outgrown => exact h)))

/-- A block that stands last. -/
theorem c_lblock {id : Nat} {x : Code} (hx : ∀ Q', (∀ a w, Q .normal a w → Q' .normal a w) → (∀ a w, Q .normal a w → Q' (.exit id) a w) → Others Q Q' (some id) → x.wp P Q' a w) : (Code.block id x).wp P Q a w :=
  wp_block (hx _ (fun a w c => c) (fun a w c => by simpa [Exit.inBlock] using c) (fun e a w hn hi h => by
    cases e with
    | normal => exact absurd rfl hn
    | exit j =>
      have : j ≠ id := fun e => hi id rfl (by rw [e])
      simpa [Exit.inBlock, this] using h
    | goto _ => exact h
    | ret => exact h
    | panic _ => exact h
    | outgrown => exact h))

/-- A loop: I at each round's head, μ goes down. -/
theorem c_loop {c : Code} (I : Act → World → Prop) (μ : Act → World → Nat) (h₀ : I a w)
    (round : ∀ a w, I a w → ∀ Q', (∀ a' w', I a' w' → μ a' w' < μ a w → Q' .normal a' w') → Others Q Q' none → c.wp P Q' a w) : (Code.loop c).wp P Q a w :=
  wp_loop I μ h₀ fun a w hI => round a w hI _ (fun a' w' h1 h2 => ⟨h1, h2⟩) (fun e a w hn _ h => by cases e <;> first | exact h | exact absurd rfl hn)

/-- A loop with a measure that is no function of the frame: 'I k': k goes down. -/
theorem c_loopN {c : Code} (I : Nat → Act → World → Prop) (k₀ : Nat) (h₀ : I k₀ a w)
    (round : ∀ k a w, I k a w → ∀ Q', (∀ k' a' w', k' < k → I k' a' w' → Q' .normal a' w') → Others Q Q' none → c.wp P Q' a w) : (Code.loop c).wp P Q a w := by
  intro b kk cs
  have key : ∀ m a w, I m a w →
      ∃ e a' w', Q e a' w' ∧ Arrives P (lone (b.at a (.code c :: .inLoop c :: kk)) cs w) b kk cs e a' w' := by
    intro m
    induction m using Nat.strongRecOn with
    | _ m ih =>
      intro a w hI
      obtain ⟨e, a₁, w₁, hq, harr⟩ := round m a w hI (fun e a' w' => match e with | .normal => ∃ k', k' < m ∧ I k' a' w' | e => Q e a' w') (fun k' a' w' h1 h2 => ⟨k', h1, h2⟩)
        (fun e a w hn _ h => by cases e <;> first | exact h | exact absurd rfl hn) b (.inLoop c :: kk) cs
      cases e with
      | normal =>
        obtain ⟨k', hlt, hI₁⟩ := hq
        obtain ⟨e₂, a₂, w₂, hq₂, harr₂⟩ := ih k' hlt a₁ w₁ hI₁
        exact ⟨e₂, a₂, w₂, hq₂, .of_steps (Steps.trans harr (.one step_inLoop)) harr₂⟩
      | exit id => exact ⟨_, a₁, w₁, hq, .pass (x := .inLoop c) rfl (fun _ _ => .inl (by simp)) harr⟩
      | goto l => exact ⟨_, a₁, w₁, hq, .pass (x := .inLoop c) rfl (fun _ _ => .inl (by simp)) harr⟩
      | ret => exact ⟨_, a₁, w₁, hq, .pass (x := .inLoop c) rfl (fun _ _ => .inl (by simp)) harr⟩
      | panic ch => exact ⟨_, a₁, w₁, hq, .pass (x := .inLoop c) rfl (fun _ _ => .inl (by simp)) harr⟩
      | outgrown => exact ⟨_, a₁, w₁, hq, .pass (x := .inLoop c) rfl (fun _ _ => .inl (by simp)) harr⟩
  obtain ⟨e, a', w', hq, harr⟩ := key k₀ a w h₀
  exact ⟨e, a', w', hq, .of_steps (.one step_loop) harr⟩

/-- A scope in which the run jumps back to one label: I k at the label; k goes down. -/
theorem c_scope {c body : Code} (lb : Nat) (I : Nat → Act → World → Prop) (hf : findLabel c lb = some (.seq .skip body))
    (hbody : ∀ k a w, I k a w → ∀ Q', (∀ a' w', (∃ k', k' < k ∧ I k' a' w') → Q' (.goto lb) a' w') → (∀ a w, Q .normal a w → Q' .normal a w) → (∀ a w, Q .ret a w → Q' .ret a w) → body.wp P Q' a w)
    (first : ∀ Q', (∀ k a w, I k a w → body.wp P Q' a w) → (∀ a w, Q .normal a w → Q' .normal a w) → (∀ a w, Q .ret a w → Q' .ret a w) → c.wp P Q' a w) : (Code.scope c).wp P Q a w := by
  intro b kk cs
  have hg : gotoIn lb (.inScope c :: kk) = some (.code (.seq .skip body) :: .inScope c :: kk) := by simp [gotoIn, hf]
  let QJ (J : Act → World → Prop) : Exit → Act → World → Prop := fun e a w => match e with | .goto l' => l' = lb ∧ J a w | .exit _ => False | .panic _ => False | .outgrown => False | .normal => Q .normal a w | .ret => Q .ret a w
  have hb : ∀ k a w, I k a w → body.wp P (QJ fun a' w' => ∃ k', k' < k ∧ I k' a' w') a w := fun k a w hI => hbody k a w hI _ (fun a' w' h1 => ⟨rfl, h1⟩) (fun _ _ h => h) (fun _ _ h => h)
  have hb' : ∀ k a w, I k a w → body.wp P (QJ fun a' w' => ∃ k', I k' a' w') a w := fun k a w hI => wp_mono (hb k a w hI) fun e a w h => by
    cases e with
    | goto l' => obtain ⟨h1, k', _, h2⟩ := h; exact ⟨h1, k', h2⟩
    | normal => exact h
    | ret => exact h
    | exit _ => exact h
    | panic _ => exact h
    | outgrown => exact h
  have key : ∀ m a w, I m a w → ∃ e a' w', Q e a' w' ∧ Arrives P (lone (b.at a (.code (.seq .skip body) :: .inScope c :: kk)) cs w) b kk cs e a' w' := by
    intro m
    induction m using Nat.strongRecOn with
    | _ m ih =>
      intro a w hI
      have hs : (Code.seq .skip body).wp P (QJ fun a' w' => ∃ k', k' < m ∧ I k' a' w') a w := wp_seq (wp_skip (hb m a w hI))
      obtain ⟨e, a₁, w₁, hq, harr⟩ := hs b (.inScope c :: kk) cs
      cases e with
      | normal => exact ⟨.normal, a₁, w₁, hq, Steps.trans harr (.one step_inScope)⟩
      | exit id => exact hq.elim
      | goto l' =>
        obtain ⟨rfl, k', hlt, hI'⟩ := hq
        obtain ⟨e₂, a₂, w₂, hq₂, harr₂⟩ := ih k' hlt a₁ w₁ hI'
        exact ⟨e₂, a₂, w₂, hq₂, .of_steps (harr _ hg) harr₂⟩
      | ret => exact ⟨_, a₁, w₁, hq, harr⟩
      | panic ch => exact hq.elim
      | outgrown => exact hq.elim
  obtain ⟨e, a₁, w₁, hq, harr⟩ := first _ hb' (fun _ _ h => h) (fun _ _ h => h) b (.inScope c :: kk) cs
  cases e with
  | normal => exact ⟨.normal, a₁, w₁, hq, .head step_scope (Steps.trans harr (.one step_inScope))⟩
  | exit id => exact hq.elim
  | goto l' =>
    obtain ⟨rfl, k', hI'⟩ := hq
    obtain ⟨e₂, a₂, w₂, hq₂, harr₂⟩ := key k' a₁ w₁ hI'
    exact ⟨e₂, a₂, w₂, hq₂, .of_steps (.head step_scope (harr _ hg)) harr₂⟩
  | ret => exact ⟨_, a₁, w₁, hq, .of_steps (.one step_scope) harr⟩
  | panic ch => exact hq.elim
  | outgrown => exact hq.elim

theorem c_goto {lb : Nat} (h : Q (.goto lb) a w) : (Code.goto lb).wp P Q a w := wp_goto h
theorem c_label {lb : Nat} {y : Code} (h : y.wp P Q a w) : (Code.seq (.label lb) y).wp P Q a w := wp_seq (wp_label h)

theorem c_cond {c : Operand} {x y : Code} {b : Bool} (h : Fr n l a) (hc : ev l c = some (.bool b)) (ht : b = true → x.wp P Q a w) (hf : b = false → y.wp P Q a w) : (Code.cond c x y).wp P Q a w :=
  wp_cond_split (h.ev hc) ht hf

theorem c_skip (h : Q .normal a w) : Code.skip.wp P Q a w := wp_skip h
theorem c_exit {id : Nat} (h : Q (.exit id) a w) : (Code.exit id).wp P Q a w := wp_exit h
theorem c_ret (h : Q .ret a w) : Code.ret.wp P Q a w := wp_ret h
end

/-! ### entering a function, and its results -/
def slots : Nat → List Value → List (Nat × Value)
  | _, [] => []
  | i, v :: vs => (i, v) :: slots (i + 1) vs

theorem look_slots : ∀ (vs : List Value) (k i : Nat) (v : Value), look (slots k vs) i = some v → k ≤ i ∧ vs[i - k]? = some v
  | [], k, i, v, h => by cases h
  | u :: vs, k, i, v, h => by
    simp only [slots, look] at h
    cases hb : Nat.beq k i with
    | true =>
      rw [hb] at h
      have := Nat.eq_of_beq_eq_true hb
      subst this
      simp at h
      simp [h]
    | false =>
      rw [hb] at h
      simp only [cond_false] at h
      obtain ⟨h1, h2⟩ := look_slots vs (k + 1) i v h
      refine ⟨by omega, ?_⟩
      have : i - k = (i - (k + 1)) + 1 := by omega
      rw [this]
      simpa using h2

theorem Fr.enter (n : Nat) (vs : List Value) (hn : Nat.ble vs.length n = true) : Fr n (slots 0 vs) { tmps := vs.toArray ++ Array.replicate (n - vs.toArray.size) undef, defers := [] } := by
  have hn' : vs.length ≤ n := by simpa [Nat.ble_eq] using hn
  refine ⟨by simp; omega, rfl, fun i v e => ?_⟩
  obtain ⟨-, h2⟩ := look_slots vs 0 i v e
  simp only [Nat.sub_zero] at h2
  have hi : i < vs.length := (List.getElem?_eq_some_iff.1 h2).1
  have h3 : vs[i]'hi = v := by
    rw [List.getElem?_eq_getElem hi] at h2
    exact Option.some.inj h2
  simp [Array.getD_eq_getD_getElem?, Array.getElem?_append, hi, h3]

/-- What stands at a function's end. -/
def Out (P : Program) (fn : Func) (R : Value → World → Prop) (a : Act) (w : World) : Prop := a.defers = [] ∧ ∃ v, (results fn a.tmps).run P w = .ok v w ∧ R v w

theorem enter {P : Program} {f : FuncId} {fn : Func} {c : Code} {vs : List Value} {n : Nat} {w : World} {R : Value → World → Prop}
    (hf : P.funcs[f]? = some fn) (hb : fn.body = some c) (hn : fn.ntmps = n) (hle : Nat.ble vs.length n = true)
    (h : ∀ Q a, Fr n (slots 0 vs) a → (∀ a w, Out P fn R a w → Q .ret a w) → (∀ a w, Out P fn R a w → Q .normal a w) → c.wp P Q a w) : Calls P f vs.toArray w (Ret R) := by
  refine calls_of_wp hf hb ?_
  rw [hn]
  exact h _ _ (Fr.enter n vs hle) (fun a w ⟨h1, v, h2, h3⟩ => ⟨h1, v, h2, h3⟩) (fun a w ⟨h1, v, h2, h3⟩ => ⟨h1, v, h2, h3⟩)

/-- One result variable reads v. -/
def RV (P : Program) (l : List (Nat × Value)) (w : World) : ResultVar → Value → Prop
  | .tmp t, v => look l t = some v
  | .cell p ty, v => ∃ ad, look l p = some (.pointer (some ad)) ∧ (loadVar ty ad).run P w = .ok v w

section
variable {P : Program} {fn : Func} {R : Value → World → Prop} {n : Nm} {l : List (Nat × Value)} {a : Act} {w : World}

theorem out0 (h : Fr n l a) (hr : fn.results = #[]) (hR : R (.tuple #[]) w) (hds : n.ds = [] := by rfl) : Out P fn R a w := ⟨h.defers.trans hds, _, by simp [results, hr], hR⟩

theorem RV.run (h : Fr n l a) : ∀ {r : ResultVar} {v : Value}, RV P l w r v → (match r with | .tmp t => (pure (a.tmps.getD t undef) : Sem Value) | .cell p ty => do loadVar ty (← asAddr (a.tmps.getD p undef))).run P w = .ok v w
  | .tmp t, v, hv => by simp [h.has _ _ hv]
  | .cell p ty, v, ⟨ad, h1, h2⟩ => by simp [h.has _ _ h1, asAddr, h2]
end

end Go.Stp
