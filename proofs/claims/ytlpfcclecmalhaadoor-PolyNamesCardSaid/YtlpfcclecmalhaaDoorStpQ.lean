/- The step library, thirteenth part: steps in fewer words: runs of copies; a value, a call and its name in one step. -/
import Derived.Test.YtlpfcclecmalhaaDoorStpP
set_option linter.unusedSimpArgs false
set_option linter.unusedVariables false
set_option linter.unusedSectionVars false
namespace Go.Stp
open Go.RowKit
def dstB (n : Nat) (o : Oper) : Option Nat := match o.guard with
  | some _ => none
  | none => match o.dst with
    | some d => bif Nat.blt d n then some d else none
    | none => none
theorem dstB_ok {n d : Nat} {o : Oper} (h : dstB n o = some d) : o.guard = none ∧ o.dst = some d ∧ Nat.blt d n = true := by
  unfold dstB at h
  cases hg : o.guard with
  | some _ => rw [hg] at h; cases h
  | none =>
    rw [hg] at h
    cases hd : o.dst with
    | none => rw [hd] at h; cases h
    | some e =>
      rw [hd] at h
      simp only at h
      cases hb : Nat.blt e n with
      | false => rw [hb] at h; cases h
      | true =>
        rw [hb] at h
        obtain rfl := Option.some.inj h
        exact ⟨rfl, rfl, hb⟩
/-- What a copy yields. -/
def cpV (l : List (Nat × Value)) : Op → Option Value
  | .move x => ev l x
  | .assign x => ev l x
  | .extract x i => match ev l x with
    | some (.tuple vs) => vs.toList[i]?
    | _ => none
  | _ => none
def cpRun (n : Nat) : Nat → List (Nat × Value) → List Oper → Option (List (Nat × Value) × List Oper)
  | 0, l, ol => some (l, ol)
  | _ + 1, _, [] => none
  | k + 1, l, o :: ol => match dstB n o with
    | none => none
    | some d => match cpV l o.op with
      | none => none
      | some V => cpRun n k ((d, V) :: l) ol
section
variable {P : Program} {ops : Array Oper} {Q : Exit → Act → World → Prop} {rest : List Oper} {o : Oper} {n : Nm} {d : Nat} {l : List (Nat × Value)} {a : Act} {w : World} {w0 : Bs} {hl : List Own} {Zi Z : FZ} {V : Value}
theorem cpV_ok (h : cpV l o.op = some V) : Val P l w o V := by
  obtain ⟨od, op, ty, pos, af, g⟩ := o
  cases op with
  | move x => exact v_move h
  | assign x => exact v_assign h
  | extract x i =>
    simp only [cpV] at h
    split at h
    · rename_i vs hx
      exact v_extract hx h
    · cases h
  | _ => cases h
theorem cps : ∀ (k : Nat) {l l' : List (Nat × Value)} {ol ol' : List Oper} {a : Act}, Fr n l a → cpRun n.n k l ol = some (l', ol') → (∀ a', Fr n l' a' → wpList P ops Q ol' a' w) → wpList P ops Q ol a w
  | 0, l, l', ol, ol', a, h, e, kk => by
    simp only [cpRun, Option.some.injEq, Prod.mk.injEq] at e
    obtain ⟨rfl, rfl⟩ := e
    exact kk a h
  | k + 1, l, l', [], ol', a, h, e, kk => by cases e
  | k + 1, l, l', o :: ol, ol', a, h, e, kk => by
    simp only [cpRun] at e
    split at e
    · cases e
    · rename_i d hd
      split at e
      · cases e
      · rename_i V hV
        obtain ⟨h1, h2, h3⟩ := dstB_ok hd
        exact st1 h h1 h2 h3 (cpV_ok hV) fun a' h' => cps k h' e kk
section
variable {ρ : Type} {r : ρ}
theorem s1 (h : Fr n l a) (hd : dstB n.n o = some d) (hv : Val P l w o V) (kk : ∀ a', Fr n ((d, V) :: l) a' → wpList P ops Q rest a' w) : wpList P ops Q (o :: rest) a w := by
  obtain ⟨h1, h2, h3⟩ := dstB_ok hd
  exact st1 h h1 h2 h3 hv kk
/-- A number, a truth value, a text, under a name of its own. -/
theorem sI {Z : Int} {f : Int → Option ρ} {k : IntKind} (h : Fr n l a) (hS : bindv Z f = some r) (hd : dstB n.n o = some d) (hv : Val P l w o (.int k Z)) (kk : ∀ z, z = Z → f z = some r → ∀ a', Fr n ((d, .int k z) :: l) a' → wpList P ops Q rest a' w) : wpList P ops Q (o :: rest) a w :=
  s1 h hd hv (kk Z rfl hS)
theorem sB {Z : Bool} {f : Bool → Option ρ} (h : Fr n l a) (hS : bindv Z f = some r) (hd : dstB n.n o = some d) (hv : Val P l w o (.bool Z)) (kk : ∀ z, z = Z → f z = some r → ∀ a', Fr n ((d, .bool z) :: l) a' → wpList P ops Q rest a' w) : wpList P ops Q (o :: rest) a w :=
  s1 h hd hv (kk Z rfl hS)
theorem sS {Z : List UInt8} {f : List UInt8 → Option ρ} (h : Fr n l a) (hS : bindv Z f = some r) (hd : dstB n.n o = some d) (hv : Val P l w o (S Z)) (kk : ∀ z, z = Z → f z = some r → ∀ a', Fr n ((d, S z) :: l) a' → wpList P ops Q rest a' w) : wpList P ops Q (o :: rest) a w :=
  s1 h hd hv (kk Z rfl hS)
/-- A call. -/
theorem sC {α : Type} {A : Option α} {f : α → Option ρ} {V : α → Value} (h : Fr n l a) (H : HZ w0 Zi Z hl w) (hS : obind A f = some r) (hd : dstB n.n o = some d) (hv : ∀ y, A = some y → Does P l w o (fun v w' => v = V y ∧ Ext w w'))
    (kk : ∀ y, f y = some r → ∀ w', Ext w w' → HZ w0 Zi Z hl w' → ∀ a', Fr n ((d, V y) :: l) a' → wpList P ops Q rest a' w') : wpList P ops Q (o :: rest) a w := by
  obtain ⟨h1, h2, h3⟩ := dstB_ok hd
  obtain ⟨y, e, hS⟩ := bo hS
  exact st2v h h1 h2 h3 (hv y e) fun w' X a' h' => kk y hS w' X (H.ext X) a' h'
end
theorem cN {ops : Array Oper} {y : Code} {K : Act → World → Prop} (hK : ∀ a w, y.wp P Q a w → K a w) (h : Fr n l a) (is : List Nat) (l' : List (Nat × Value)) (k : Fr n l' a → y.wp P Q a w) (e : pickS l is = l' := by rfl) : wpList P ops (Exit.then K Q) [] a w := hK _ _ (k (h.only is e))
theorem cO (h : Fr n l a) (is : List Nat) (l' : List (Nat × Value)) {G : Prop} (k : Fr n l' a → G) (e : pickS l is = l' := by rfl) : G := k (h.only is e)
theorem cz {ops : Array Oper} {y : Code} {K : Act → World → Prop} (hK : ∀ a w, y.wp P Q a w → K a w) (h : y.wp P Q a w) : wpList P ops (Exit.then K Q) [] a w := hK _ _ h
theorem Fr.to {l' : List (Nat × Value)} (h : Fr n l a) (e : pickS l (l'.map (·.1)) = l' := by rfl) : Fr n l' a := h.only _ e
/-- region, then y. -/
theorem rg {id : Nat} {ol : List Oper} {y : Code} (h : ∀ K : Act → World → Prop, (∀ a w, y.wp P Q a w → K a w) → wpList P ol.toArray (Exit.then K Q) ol a w) : (Code.seq (.region id ol.toArray false) y).wp P Q a w := c_region h
theorem ex2 {α β : Sort _} {p : α → β → Prop} {a : α} {b : β} (h : p a b) : ∃ x y, p x y := ⟨a, b, h⟩
theorem ex3 {α β γ : Sort _} {p : α → β → γ → Prop} {a : α} {b : β} {c : γ} (h : p a b c) : ∃ x y z, p x y z := ⟨a, b, c, h⟩
theorem ex4 {α β γ δ : Sort _} {p : α → β → γ → δ → Prop} {a : α} {b : β} {c : γ} {d : δ} (h : p a b c d) : ∃ x y z u, p x y z u := ⟨a, b, c, d, h⟩
theorem ex5 {α β γ δ ε : Sort _} {p : α → β → γ → δ → ε → Prop} {a : α} {b : β} {c : γ} {d : δ} {e : ε} (h : p a b c d e) : ∃ x y z u v, p x y z u v := ⟨a, b, c, d, e, h⟩
theorem ex6 {α β γ δ ε ζ : Sort _} {p : α → β → γ → δ → ε → ζ → Prop} {a : α} {b : β} {c : γ} {d : δ} {e : ε} {f : ζ} (h : p a b c d e f) : ∃ x y z u v t, p x y z u v t := ⟨a, b, c, d, e, f, h⟩
theorem exU1 {α : Sort _} {p : α → Unit → Prop} {a : α} (h : p a ()) : ∃ x y, p x y := ⟨a, (), h⟩
theorem exU2 {α β : Sort _} {p : α → Unit → β → Prop} {a : α} {b : β} (h : p a () b) : ∃ x y z, p x y z := ⟨a, (), b, h⟩
theorem exU3 {α β γ : Sort _} {p : α → Unit → β → γ → Prop} {a : α} {b : β} {c : γ} (h : p a () b c) : ∃ x y z u, p x y z u := ⟨a, (), b, c, h⟩
theorem exL {I : Nat → Prop} {k : Nat} (h : I k) : ∃ k', k' < k + 1 ∧ I k' := ⟨k, Nat.lt_succ_self k, h⟩
/-- A jump out of a block, or its end: C. -/
def xB (id : Nat) (C : Act → World → Prop) (Q : Exit → Act → World → Prop) : Exit → Act → World → Prop
  | .normal, a, w => C a w
  | .exit i, a, w => match Nat.beq i id with
    | true => C a w
    | false => Q (.exit i) a w
  | e, a, w => Q e a w
def xL (I : Nat → Act → World → Prop) (k : Nat) (Q : Exit → Act → World → Prop) : Exit → Act → World → Prop
  | .normal, a, w => ∃ k', k' < k ∧ I k' a w
  | e, a, w => Q e a w
theorem sq {x y : Code} (h : x.wp P (Exit.then (y.wp P Q) Q) a w) : (Code.seq x y).wp P Q a w := wp_seq h
theorem blk {id : Nat} {x : Code} {C : Act → World → Prop} (hC : ∀ a w, C a w → Q .normal a w) (h : x.wp P (xB id C Q) a w) : (Code.block id x).wp P Q a w :=
  wp_block (wp_mono h fun e a w hq => by
    cases e with
    | normal => exact hC a w hq
    | exit i =>
      simp only [xB, Exit.inBlock] at hq ⊢
      by_cases hi : i = id
      · subst hi
        simp only [Nat.beq_refl] at hq
        rw [if_pos rfl]
        exact hC a w hq
      · rw [if_neg hi]
        have : Nat.beq i id = false := by
          cases hb : Nat.beq i id with
          | false => rfl
          | true => exact absurd (Nat.eq_of_beq_eq_true hb) hi
        rw [this] at hq
        exact hq
    | _ => exact hq)
theorem lb {id : Nat} {x : Code} (h : x.wp P (xB id (Q .normal) Q) a w) : (Code.block id x).wp P Q a w := blk (fun _ _ h => h) h
theorem sb {id : Nat} {x y : Code} (h : x.wp P (xB id (y.wp P Q) Q) a w) : (Code.seq (.block id x) y).wp P Q a w :=
  wp_seq (blk (C := y.wp P Q) (fun _ _ h => h) (wp_mono h fun e a w hq => by
    cases e with
    | exit i =>
      simp only [xB] at hq ⊢
      split at hq <;> exact hq
    | _ => exact hq))
/-- C holds between. -/
theorem sqJ {x y : Code} (C : Act → World → Prop) (hy : ∀ a w, C a w → y.wp P Q a w) (hx : x.wp P (Exit.then C Q) a w) : (Code.seq x y).wp P Q a w :=
  wp_seq (wp_mono hx fun e a w hq => by cases e <;> first | exact hq | exact hy a w hq)
theorem sbJ {id : Nat} {x y : Code} (C : Act → World → Prop) (hy : ∀ a w, C a w → y.wp P Q a w) (hx : x.wp P (xB id C Q) a w) : (Code.seq (.block id x) y).wp P Q a w :=
  wp_seq (blk (C := C) hy (wp_mono hx fun e a w hq => by
    cases e with
    | exit i =>
      simp only [xB] at hq ⊢
      split at hq <;> exact hq
    | _ => exact hq))
theorem lpJ {c : Code} (I : Nat → Act → World → Prop) (k₀ : Nat) (h₀ : I k₀ a w) (round : ∀ k a w, I k a w → c.wp P (xL I k Q) a w) : (Code.loop c).wp P Q a w :=
  c_loopN I k₀ h₀ fun k a w hI Q' h1 h2 => wp_mono (round k a w hI) fun e a w hq => by
    cases e with
    | normal => obtain ⟨k', h3, h4⟩ := hq; exact h1 k' a w h3 h4
    | _ => exact h2 _ a w (by simp) (by simp) hq
theorem cI {c : Operand} {x y : Code} {b : Bool} {ρ : Type} {A B : Option ρ} {r : ρ} (h : Fr n l a) (hS : (if b = true then A else B) = some r) (hc : ev l c = some (.bool b)) (ht : b = true → A = some r → x.wp P Q a w) (hf : b = false → B = some r → y.wp P Q a w) : (Code.cond c x y).wp P Q a w :=
  c_cond h hc (fun e => ht e (ifT e hS)) (fun e => hf e (ifF e hS))
section
variable {R : Value → World → Prop} {fn : Func} {ra rb rc : ResultVar} {va vb vc : Value}
theorem r1 (hret : ∀ a w, Out P fn R a w → Q .ret a w) (h : Fr n l a) (hr : fn.results = #[ra]) (h1 : RV P l w ra va) (hR : R va w) (hds : n.ds = [] := by rfl) : Code.ret.wp P Q a w := c_ret (hret _ _ (out1 h hr h1 hR hds))
theorem r2 (hret : ∀ a w, Out P fn R a w → Q .ret a w) (h : Fr n l a) (hr : fn.results = #[ra, rb]) (h1 : RV P l w ra va) (h2 : RV P l w rb vb) (hR : R (.tuple #[va, vb]) w) (hds : n.ds = [] := by rfl) : Code.ret.wp P Q a w := c_ret (hret _ _ (out2 h hr h1 h2 hR hds))
theorem r3 (hret : ∀ a w, Out P fn R a w → Q .ret a w) (h : Fr n l a) (hr : fn.results = #[ra, rb, rc]) (h1 : RV P l w ra va) (h2 : RV P l w rb vb) (h3 : RV P l w rc vc) (hR : R (.tuple #[va, vb, vc]) w) (hds : n.ds = [] := by rfl) : Code.ret.wp P Q a w := c_ret (hret _ _ (out3 h hr h1 h2 h3 hR hds))
end
section
variable {d dn p b off k j : Nat} {t e ty : TypeId} {pos : String} {af : Array Edge} {x y : Operand} {cs : List Value} {hl' : List Own} {g : Option (Nat × Bool)}
/-- A result variable. -/
theorem rvA (H : HZ w0 Zi Z hl w) (i : Nat) (ha : ∀ w, (isAgg t).run P w = .ok true w) (hs : ∀ w, (sizeOf t).run P w = .ok k w) (vs : List Value) (hlk : look l p = some (.pointer (some ⟨b, off, none⟩)) := by rfl) (hi : hl[i]? = some (.blk b (Cel cs e)) := by rfl) (hv : (cs.drop off).take k = vs := by rfl) (hk : vs.length = k := by rfl) : RV P l w (.cell p t) (.agg vs.toArray) :=
  ⟨_, hlk, run_loadVar_agg ha hs (H.hp.get i hi) hv hk⟩
theorem rv1 (H : HZ w0 Zi Z hl w) (i : Nat) (ha : ∀ w, (isAgg t).run P w = .ok false w) (hlk : look l p = some (.pointer (some ⟨b, off, none⟩)) := by rfl) (hi : hl[i]? = some (.blk b (Cel cs e)) := by rfl) (hv : cs[off]? = some V := by rfl) : RV P l w (.cell p t) V :=
  ⟨_, hlk, run_loadVar_one ha (H.hp.get i hi) hv⟩
theorem zA (h : Fr n l a) (H : HZ w0 Zi Z hl w) {z : Value} (hz : ∀ w, (zeroValue e).run P w = .ok z w) (zs : List Value) (hl' : Own → List Own)
    (kk : ∀ a' b w', Ext w w' → HZ w0 Zi Z (hl' (.blk b (Cel zs e))) w' → Fr n ((dn, .pointer (some ⟨b, 0, none⟩)) :: l) a' → wpList P ops Q rest a' w') (hd : Nat.blt dn n.n = true := by rfl) (hzs : z.cells.toList = zs := by rfl) (he : ∀ x, hl ++ [x] = hl' x := by intro _; rfl) :
    wpList P ops Q (⟨some dn, .alloc e, ty, pos, af, none⟩ :: rest) a w := z_alloc h H hz zs hzs hd fun a' b w' X H' h' => kk a' b w' X (by rw [← he]; exact H') h'
theorem zS (h : Fr n l a) (H : HZ w0 Zi Z hl w) (i : Nat) (hs : ∀ w, (sizeOf t).run P w = .ok k w) (vs cs' : List Value) (hl' : List Own) (kk : ∀ w', HZ w0 Zi Z hl' w' → wpList P ops Q rest a w')
    (hx : ev l x = some (.pointer (some ⟨b, off, none⟩)) := by rfl) (hy : ev l y = some V := by rfl) (hi : hl[i]? = some (.blk b (Cel cs e)) := by rfl) (hvs : V.cells.toList = vs := by rfl) (hk : vs.length = k := by rfl) (h1 : allOne vs = true := by rfl) (hle : Nat.ble (off + k) cs.length = true := by rfl) (hcs : putAt cs off vs = cs' := by rfl) (hhl : hl.set i (.blk b (Cel cs' e)) = hl' := by rfl) :
    wpList P ops Q (⟨none, .store t x y, ty, pos, af, none⟩ :: rest) a w := z_store h H i hx hy hi hs vs hvs hk h1 (by simpa [Nat.ble_eq] using hle) cs' hcs hhl kk
theorem l1 (H : HZ w0 Zi Z hl w) (i : Nat) {od : Option Nat} (ha : ∀ w, (isAgg t).run P w = .ok false w) (hx : ev l x = some (.pointer (some ⟨b, off, none⟩)) := by rfl) (hi : hl[i]? = some (.blk b (Cel cs e)) := by rfl) (hv : cs[off]? = some V := by rfl) : Val P l w ⟨od, .load t x, ty, pos, af, g⟩ V := v_load1 hx ha (H.hp.get i hi) hv
theorem lA (H : HZ w0 Zi Z hl w) (i : Nat) {od : Option Nat} (ha : ∀ w, (isAgg t).run P w = .ok true w) (hs : ∀ w, (sizeOf t).run P w = .ok k w) (vs : List Value) (hx : ev l x = some (.pointer (some ⟨b, off, none⟩)) := by rfl) (hi : hl[i]? = some (.blk b (Cel cs e)) := by rfl) (hv : (cs.drop off).take k = vs := by rfl) (hk : vs.length = k := by rfl) : Val P l w ⟨od, .load t x, ty, pos, af, g⟩ (.agg vs.toArray) := v_loadA vs hx ha hs (H.hp.get i hi) hv hk
theorem dC {f : FuncId} {xs : Array Operand} {ats : Array TypeId} {vs : List Value} {R : Value → World → Prop} {od : Option Nat} (hc : ∀ as w, (callFunc f as).run P w = .ok (.enter f as) w)
    (hq : Calls P f vs.toArray w (Ret R)) (he : evs l xs.toList = some vs := by rfl) : Does P l w ⟨od, .call { callee := .value (.func f), args := xs, argTypes := ats }, ty, pos, af, g⟩ R := d_call vs he hc hq
end
theorem en {nn : Nat} {f : FuncId} {fn : Func} {c : Code} {vs : List Value} {R : Value → World → Prop} (hf : P.funcs[f]? = some fn) (is : List Nat) (l' : List (Nat × Value))
    (h : ∀ Q a Zi Z, (hz w).sub Z → HZ w Zi Z [] w → Fr nn l' a → (∀ a w, Out P fn R a w → Q .ret a w) → c.wp P Q a w) (hb : fn.body = some c := by rfl) (hn : fn.ntmps = nn := by rfl) (hle : Nat.ble vs.length nn = true := by rfl) (e : pickS (slots 0 vs) is = l' := by rfl) : Calls P f vs.toArray w (Ret R) :=
  enter hf hb hn hle fun Q a hfr hr _ => h Q a _ _ (FZ.sub.refl _) (HZ.start w) (hfr.only is e) hr
theorem enS {nn : Nat} {f : FuncId} {fn : Func} {c : Code} {vs : List Value} {R : Value → World → Prop} (hZ : Z.inn w) (hf : P.funcs[f]? = some fn) (is : List Nat) (l' : List (Nat × Value))
    (h : ∀ Q a Zi, Zi = Z → HZ w Zi Z [] w → Fr nn l' a → (∀ a w, Out P fn R a w → Q .ret a w) → c.wp P Q a w) (hb : fn.body = some c := by rfl) (hn : fn.ntmps = nn := by rfl) (hle : Nat.ble vs.length nn = true := by rfl) (e : pickS (slots 0 vs) is = l' := by rfl) : Calls P f vs.toArray w (Ret R) :=
  enter hf hb hn hle fun Q a hfr hr _ => h Q a _ rfl (HZ.startZ hZ) (hfr.only is e) hr
end
section
variable {P : Program} {ops : Array Oper} {w1 : World} {n : Nm} {d : Nat} {F : List (Nat × RL) → List Nat → Prop} {L : List (Nat × RL)} {A : List Nat} {rest : List Oper} {o : Oper} {V : Value} {ρ : Type} {r : ρ}
theorem subB_refl (S : List Nat) : subB S S = true := List.all_eq_true.2 fun s hs => List.any_eq_true.2 ⟨s, hs, Nat.beq_refl s⟩
theorem F1 (hd : dstB n.n o = some d) (hv : ∀ w, Ext w1 w → Val P (pickE L (o.looksAt ops)) w o V) (k : wpFlow P ops w1 n F ((d, .eq V) :: L) A rest) : wpFlow P ops w1 n F L A (o :: rest) := by
  obtain ⟨h1, h2, h3⟩ := dstB_ok hd
  exact f1 _ (subB_refl _) h1 h2 h3 hv k
def cpRunF (ops : Array Oper) (n : Nat) : Nat → List (Nat × RL) → List Oper → Option (List (Nat × RL) × List Oper)
  | 0, L, ol => some (L, ol)
  | _ + 1, _, [] => none
  | k + 1, L, o :: ol => match dstB n o with
    | none => none
    | some d => match cpV (pickE L (o.looksAt ops)) o.op with
      | none => none
      | some V => cpRunF ops n k ((d, .eq V) :: L) ol
theorem fcps : ∀ (k : Nat) {L L' : List (Nat × RL)} {ol ol' : List Oper}, cpRunF ops n.n k L ol = some (L', ol') → wpFlow P ops w1 n F L' A ol' → wpFlow P ops w1 n F L A ol
  | 0, L, L', ol, ol', e, kk => by
    simp only [cpRunF, Option.some.injEq, Prod.mk.injEq] at e
    obtain ⟨rfl, rfl⟩ := e
    exact kk
  | k + 1, L, L', [], ol', e, kk => by cases e
  | k + 1, L, L', o :: ol, ol', e, kk => by
    simp only [cpRunF] at e
    split at e
    · cases e
    · rename_i d hd
      split at e
      · cases e
      · rename_i V hV
        exact F1 hd (fun w _ => cpV_ok hV) (fcps k e kk)
theorem fI {Z : Int} {f : Int → Option ρ} {k : IntKind} (hS : bindv Z f = some r) (hd : dstB n.n o = some d) (hv : ∀ w, Ext w1 w → Val P (pickE L (o.looksAt ops)) w o (.int k Z)) (kk : ∀ z, z = Z → f z = some r → wpFlow P ops w1 n F ((d, .eq (.int k z)) :: L) A rest) : wpFlow P ops w1 n F L A (o :: rest) := F1 hd hv (kk Z rfl hS)
theorem fB {Z : Bool} {f : Bool → Option ρ} (hS : bindv Z f = some r) (hd : dstB n.n o = some d) (hv : ∀ w, Ext w1 w → Val P (pickE L (o.looksAt ops)) w o (.bool Z)) (kk : ∀ z, z = Z → f z = some r → wpFlow P ops w1 n F ((d, .eq (.bool z)) :: L) A rest) : wpFlow P ops w1 n F L A (o :: rest) := F1 hd hv (kk Z rfl hS)
theorem fS {Z : List UInt8} {f : List UInt8 → Option ρ} (hS : bindv Z f = some r) (hd : dstB n.n o = some d) (hv : ∀ w, Ext w1 w → Val P (pickE L (o.looksAt ops)) w o (S Z)) (kk : ∀ z, z = Z → f z = some r → wpFlow P ops w1 n F ((d, .eq (S z)) :: L) A rest) : wpFlow P ops w1 n F L A (o :: rest) := F1 hd hv (kk Z rfl hS)
theorem fC {α : Type} {B : Option α} {f : α → Option ρ} {V : α → Value} (hS : obind B f = some r) (hd : dstB n.n o = some d) (hv : ∀ y, B = some y → ∀ w, Ext w1 w → Does P (pickE L (o.looksAt ops)) w o (fun v w' => v = V y ∧ Ext w w'))
    (kk : ∀ y, f y = some r → wpFlow P ops w1 n F ((d, .eq (V y)) :: L) A rest) : wpFlow P ops w1 n F L A (o :: rest) := by
  obtain ⟨h1, h2, h3⟩ := dstB_ok hd
  obtain ⟨y, e, hS⟩ := bo hS
  exact f2 _ (subB_refl _) h1 h2 h3 (hv y e) (kk y hS)
/-- The region's head ends: the slots that are wanted further. -/
theorem fE {w0 : Bs} {Zi Z : FZ} {hl : List Own} {G : Act → World → Prop} (S : List Nat) (l' : List (Nat × Value)) (H : HZ w0 Zi Z hl w1) (kk : ∀ a w, Ext w1 w → HZ w0 Zi Z hl w → Fr n l' a → G a w) (e : pickE L S = l' := by rfl) :
    wpFlow P ops w1 n (fun L A => ∀ a' w', Ext w1 w' → FrR n L a' w' → Fresh w1 L A a' w' → G a' w') L A [] := fun a w X hR _ =>
  kk a w X (H.ext X) (by subst e; exact pickE_fr hR.size hR.defers S fun s _ r hr => hR.has s r hr)
end
section
variable {P : Program} {Q : Exit → Act → World → Prop} {n : Nm} {l : List (Nat × Value)} {a : Act} {w : World}
theorem fl {id : Nat} {ol : List Oper} {y : Code} (h : Fr n l a) (H : wpFlow P ol.toArray w n (fun L A => ∀ a' w', Ext w w' → FrR n L a' w' → Fresh w L A a' w' → y.wp P Q a' w') (eqs l) [] ol) (hm : P.follows .mixedOrders = true := by kernel_rfl) (hB : flowB ol.toArray ol.length = true := by kernel_rfl) : (Code.seq (.region id ol.toArray true) y).wp P Q a w := c_flow h hm hB H
theorem flT {id : Nat} {ol : List Oper} {y : Code} (m : Nat) (h : Fr n l a) (H : ∀ K : Act → World → Prop, (∀ a w, y.wp P Q a w → K a w) → wpFlow P ol.toArray w n (fun L A => ∀ a' w', Ext w w' → FrR n L a' w' → Fresh w L A a' w' → wpList P ol.toArray (Exit.then K Q) (ol.drop m) a' w') (eqs l) [] (ol.take m))
    (hm : P.follows .mixedOrders = true := by kernel_rfl) (hB : flowTB ol.toArray m = true := by kernel_rfl) : (Code.seq (.region id ol.toArray true) y).wp P Q a w := c_flowT m h hm hB H
end
end Go.Stp
