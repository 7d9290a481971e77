/- The step library, second part: what single operations yield: numbers, booleans, texts. -/
import Derived.Test.YtlpfcclecmalhaaDoorStp
set_option linter.unusedSimpArgs false
set_option linter.unusedVariables false
set_option linter.unusedSectionVars false
namespace Go.Stp
open Go.RowKit

abbrev S (l : List UInt8) : Value := .string ⟨l.toArray⟩
theorem S_eq (s : ByteArray) : Value.string s = S s.data.toList := by simp [S]
/-- The byte at a place (0 where there is none), as a number. -/
def bt (l : List UInt8) (z : Int) : Int := ((l.getD z.toNat 0).toNat : Int)
theorem bt_lo (l : List UInt8) (z : Int) : 0 ≤ bt l z := by unfold bt; omega
theorem bt_hi (l : List UInt8) (z : Int) : bt l z ≤ 255 := by unfold bt; have := (l.getD z.toNat 0).toNat_lt; omega
/-- Bytes from one place up to another. -/
def cutS (l : List UInt8) (lo hi : Int) : List UInt8 := (l.take hi.toNat).drop lo.toNat

theorem cutS_length (l : List UInt8) (lo hi : Int) : (cutS l lo hi).length = min hi.toNat l.length - lo.toNat := by simp [cutS]

/-- A value behind a guard. -/
def gw (c : Bool) (V : Value) : Value := match c with
  | true => V
  | false => undef
theorem gw_not {c : Bool} (h : c = false) (V : Value) : gw c V = undef := by subst h; rfl
theorem gw_of {c : Bool} (h : c = true) (V : Value) : gw c V = V := by subst h; rfl
theorem eg {l : List (Nat × Value)} {x : Operand} {c : Bool} {X : Value} (h : c = true) (hx : ev l x = some (gw c X)) : ev l x = some X := by rw [hx, gw_of h]
theorem egn {l : List (Nat × Value)} {x : Operand} {c b : Bool} {X : Value} (h : c = true) (hx : ev l x = some (gw (c && b) X)) : ev l x = some (gw b X) := by rw [hx, h, Bool.true_and]
theorem al {a b : Bool} (h : (a && b) = true) : a = true := by cases a <;> simp_all
theorem ar {a b : Bool} (h : (a && b) = true) : b = true := by cases b <;> simp_all

section
variable {P : Program} {ops : Array Oper} {Q : Exit → Act → World → Prop} {rest : List Oper} {o : Oper} {n : Nm} {d : Nat} {l : List (Nat × Value)} {a : Act} {w : World} {V : Value}

def isB (b : Bool) (U : Value) : Bool := match U with | .bool u => u == b | _ => false
theorem wanted_val (h : Fr n l a) {j g : Nat} {b : Bool} {U : Value} (hg : o.guard = some (j, b)) (hj : (ops[j]?).bind (·.dst) = some g) (hgv : look l g = some U) :
    Region.wanted o (yielded ops a.tmps) = isB b U := by
  have e := h.has _ _ hgv
  simp only [Region.wanted, hg, yielded, hj, Option.bind_some]
  rw [Array.getD_eq_getD_getElem?] at e
  cases hx : a.tmps[g]? with
  | none =>
    rw [hx] at e
    simp only [Option.getD_none] at e
    subst e
    cases b <;> rfl
  | some u =>
    rw [hx] at e
    simp only [Option.getD_some] at e
    subst e
    cases u with
    | bool u => cases u <;> cases b <;> rfl
    | _ => cases b <;> rfl

/-- Which way a guard goes. -/
def Wants (l : List (Nat × Value)) (g : Nat) (b : Bool) (c : Bool) : Prop := ∃ U, look l g = some U ∧ isB b U = c
theorem gT {g : Nat} {b : Bool} (h : look l g = some (.bool b)) : Wants l g true b := ⟨_, h, by cases b <;> rfl⟩
theorem gF {g : Nat} {b : Bool} (h : look l g = some (.bool b)) : Wants l g false (!b) := ⟨_, h, by cases b <;> rfl⟩
theorem ggT {g : Nat} {c b : Bool} (h : look l g = some (gw c (.bool b))) : Wants l g true (c && b) := ⟨_, h, by cases c <;> cases b <;> rfl⟩
theorem ggF {g : Nat} {c b : Bool} (h : look l g = some (gw c (.bool b))) : Wants l g false (c && !b) := ⟨_, h, by cases c <;> cases b <;> rfl⟩

theorem skip_of (h : Fr n l a) (hd : o.dst = some d) (hdn : Nat.blt d n.n = true) (hw : Region.wanted o (yielded ops a.tmps) = false) (k : ∀ a', Fr n ((d, undef) :: l) a' → wpList P ops Q rest a' w) : wpList P ops Q (o :: rest) a w := by
  simp only [wpList, hw]
  have := k _ (h.put hdn undef)
  rw [hd]
  simpa using this

/-- An operation behind a guard: its value is behind that guard, too. -/
theorem st_g {j g : Nat} {b c : Bool} (h : Fr n l a) (hg : o.guard = some (j, b)) (hj : (ops[j]?).bind (·.dst) = some g) (hgv : Wants l g b c) (hd : o.dst = some d) (hdn : Nat.blt d n.n = true)
    (hv : c = true → Val P l w o V) (k : ∀ a', Fr n ((d, gw c V) :: l) a' → wpList P ops Q rest a' w) : wpList P ops Q (o :: rest) a w := by
  obtain ⟨U, hU, hc⟩ := hgv
  have hw := wanted_val h hg hj hU
  rw [hc] at hw
  cases c with
  | true =>
    simp only [wpList, hw, if_true]
    left
    unfold Oper.wp
    rw [hv rfl n a h]
    show wpList P ops Q rest (a.put o.dst V) w
    rw [hd]
    exact k _ (h.put hdn V)
  | false => exact skip_of h hd hdn hw k
theorem st_gb {j g : Nat} {b c B : Bool} (h : Fr n l a) (hg : o.guard = some (j, b)) (hj : (ops[j]?).bind (·.dst) = some g) (hgv : Wants l g b c) (hd : o.dst = some d) (hdn : Nat.blt d n.n = true)
    (hv : c = true → Val P l w o (.bool B)) (k : ∀ r, r = B → ∀ a', Fr n ((d, gw c (.bool r)) :: l) a' → wpList P ops Q rest a' w) : wpList P ops Q (o :: rest) a w :=
  st_g h hg hj hgv hd hdn hv (k B rfl)
theorem st_gdb {T : World → World → Prop} {j g : Nat} {b c B : Bool} (h : Fr n l a) (hg : o.guard = some (j, b)) (hj : (ops[j]?).bind (·.dst) = some g) (hgv : Wants l g b c) (hd : o.dst = some d) (hdn : Nat.blt d n.n = true)
    (hT : T w w) (hv : c = true → Does P l w o (fun v w' => v = .bool B ∧ T w w')) (k : ∀ r, r = B → ∀ w', T w w' → ∀ a', Fr n ((d, gw c (.bool r)) :: l) a' → wpList P ops Q rest a' w') : wpList P ops Q (o :: rest) a w := by
  obtain ⟨U, hU, hc⟩ := hgv
  have hw := wanted_val h hg hj hU
  rw [hc] at hw
  cases c with
  | true =>
    simp only [wpList, hw, if_true]
    left
    refine hv rfl n a h _ Q fun v w' hr => ?_
    obtain ⟨rfl, ht⟩ := hr
    rw [hd]
    exact k _ rfl w' ht _ (h.put hdn _)
  | false => exact skip_of h hd hdn hw (k _ rfl w hT)
/-- A call that hands back one value, whatever the memory. -/
theorem st2v {T : World → World → Prop} (h : Fr n l a) (hg : o.guard = none) (hd : o.dst = some d) (hdn : Nat.blt d n.n = true) (hv : Does P l w o (fun v w' => v = V ∧ T w w'))
    (k : ∀ w', T w w' → ∀ a', Fr n ((d, V) :: l) a' → wpList P ops Q rest a' w') : wpList P ops Q (o :: rest) a w :=
  st2 h hg hd hdn hv (by rintro v w' ⟨rfl, ht⟩; exact k w' ht)
theorem st2b {T : World → World → Prop} {B : Bool} (h : Fr n l a) (hg : o.guard = none) (hd : o.dst = some d) (hdn : Nat.blt d n.n = true) (hv : Does P l w o (fun v w' => v = .bool B ∧ T w w'))
    (k : ∀ b, b = B → ∀ w', T w w' → ∀ a', Fr n ((d, .bool b) :: l) a' → wpList P ops Q rest a' w') : wpList P ops Q (o :: rest) a w :=
  st2 h hg hd hdn hv (by rintro v w' ⟨rfl, ht⟩; exact k _ rfl w' ht)
/-- A call behind a guard that hands back one value, whatever the memory. -/
theorem st_gd {T : World → World → Prop} {j g : Nat} {b c : Bool} (h : Fr n l a) (hg : o.guard = some (j, b)) (hj : (ops[j]?).bind (·.dst) = some g) (hgv : Wants l g b c) (hd : o.dst = some d) (hdn : Nat.blt d n.n = true)
    (hT : T w w) (hv : c = true → Does P l w o (fun v w' => v = V ∧ T w w')) (k : ∀ w', T w w' → ∀ a', Fr n ((d, gw c V) :: l) a' → wpList P ops Q rest a' w') : wpList P ops Q (o :: rest) a w := by
  obtain ⟨U, hU, hc⟩ := hgv
  have hw := wanted_val h hg hj hU
  rw [hc] at hw
  cases c with
  | true =>
    simp only [wpList, hw, if_true]
    left
    refine hv rfl n a h _ Q fun v w' hr => ?_
    obtain ⟨rfl, ht⟩ := hr
    rw [hd]
    exact k w' ht _ (h.put hdn _)
  | false => exact skip_of h hd hdn hw (k w hT)
end

theorem wi {z : Int} (h : -9223372036854775808 ≤ z ∧ z ≤ 9223372036854775807) : IntKind.i64.wrap z = z := IntWalk.i64_in z h
theorem wu8 {z : Int} (h : 0 ≤ z ∧ z ≤ 255) : IntKind.u8.wrap z = z := by
  obtain ⟨h1, h2⟩ := h
  simp [IntKind.wrap, IntKind.bits, IntKind.signed]
  omega
theorem wi32 {z : Int} (h : -2147483648 ≤ z ∧ z ≤ 2147483647) : IntKind.i32.wrap z = z := by
  obtain ⟨h1, h2⟩ := h
  simp [IntKind.wrap, IntKind.bits, IntKind.signed]
  split <;> omega
theorem wu64 {z : Int} (h : 0 ≤ z ∧ z ≤ 18446744073709551615) : IntKind.u64.wrap z = z := by
  obtain ⟨h1, h2⟩ := h
  simp [IntKind.wrap, IntKind.bits, IntKind.signed]
  omega

section
variable {ρ : Operand → Value} {d : Option Nat} {x y c : Operand} {t t' ty : TypeId} {pos : String} {af : Array Edge} {g : Option (Nat × Bool)}
theorem ex_bin (op : BinOp) : execOp ρ ⟨d, .binOp op t x y t', ty, pos, af, g⟩ = (do eqGuard op t x y (ρ x) (ρ y); binOp op t (ρ x) (ρ y)) >>= fun v => pure (.value v) := rfl
theorem ex_un (op : UnOp) : execOp ρ ⟨d, .unOp op t x, ty, pos, af, g⟩ = Op.unary op (ρ x) >>= fun v => pure (.value v) := rfl
theorem ex_pick : execOp ρ ⟨d, .pick c x y, ty, pos, af, g⟩ = (do pure (.value (if ← asBool (ρ c) then ρ x else ρ y))) := rfl
theorem ex_index : execOp ρ ⟨d, .index t x y, ty, pos, af, g⟩ = Instr.index t (ρ x) (ρ y) >>= fun v => pure (.value v) := rfl
theorem ex_call (cl : Call) : execOp ρ ⟨d, .call cl, ty, pos, af, g⟩ = (do let d ← resolve ρ cl ty; invoke d.target d.args) := rfl
end
section
variable {P : Program} {l : List (Nat × Value)} {w : World} {d : Option Nat} {x y c u v : Operand} {t t' ty : TypeId} {pos : String} {af : Array Edge} {g : Option (Nat × Bool)} {k k' : IntKind} {p q : Int} {V V' : Value}

theorem v_move (hx : ev l x = some V) : Val P l w ⟨d, .move x, ty, pos, af, g⟩ V := fun n a h => by simp [execOp, h.ev hx]
theorem v_assign (hx : ev l x = some V) : Val P l w ⟨d, .assign x, ty, pos, af, g⟩ V := fun n a h => by simp [execOp, h.ev hx]
theorem v_pick {b : Bool} (hc : ev l c = some (.bool b)) (hx : ev l x = some V) (hy : ev l y = some V') : Val P l w ⟨d, .pick c x y, ty, pos, af, g⟩ (bif b then V else V') := fun n a h => by
  cases b <;> simp [ex_pick, h.ev hx, h.ev hy, h.ev hc, asBool]
theorem v_pickT (hc : ev l c = some (.bool true)) (hx : ev l x = some V) : Val P l w ⟨d, .pick c x y, ty, pos, af, g⟩ V := fun n a h => by
  simp [ex_pick, h.ev hx, h.ev hc, asBool]
theorem v_pickF (hc : ev l c = some (.bool false)) (hy : ev l y = some V) : Val P l w ⟨d, .pick c x y, ty, pos, af, g⟩ V := fun n a h => by
  simp [ex_pick, h.ev hy, h.ev hc, asBool]
/-- 'c && x': x behind c. -/
theorem v_and {b r : Bool} (hc : ev l c = some (.bool b)) (hx : ev l x = some (gw b (.bool r))) : Val P l w ⟨d, .pick c x (.const (.bool false)), ty, pos, af, g⟩ (.bool (b && r)) := fun n a h => by
  rw [ex_pick, h.ev hx, h.ev hc]
  cases b <;> simp [asBool, gw, Act.eval]
theorem v_or {b r : Bool} (hc : ev l c = some (.bool b)) (hy : ev l y = some (gw (!b) (.bool r))) : Val P l w ⟨d, .pick c (.const (.bool true)) y, ty, pos, af, g⟩ (.bool (b || r)) := fun n a h => by
  rw [ex_pick, h.ev hy, h.ev hc]
  cases b <;> simp [asBool, gw, Act.eval]

theorem v_eq (hx : ev l x = some (.int k p)) (hy : ev l y = some (.int k q)) : Val P l w ⟨d, .binOp .eql t x y t', ty, pos, af, g⟩ (.bool (decide (p = q))) := fun n a h => by
  rw [ex_bin, h.ev hx, h.ev hy]
  cases k <;> rfl
theorem v_ne (hx : ev l x = some (.int k p)) (hy : ev l y = some (.int k q)) : Val P l w ⟨d, .binOp .neq t x y t', ty, pos, af, g⟩ (.bool (!decide (p = q))) := fun n a h => by
  rw [ex_bin, h.ev hx, h.ev hy]
  cases k <;> rfl
theorem v_lt (hx : ev l x = some (.int k p)) (hy : ev l y = some (.int k q)) : Val P l w ⟨d, .binOp .lss t x y t', ty, pos, af, g⟩ (.bool (decide (p < q))) := fun n a h => by
  rw [ex_bin, h.ev hx, h.ev hy]
  cases k <;> rfl
theorem v_le (hx : ev l x = some (.int k p)) (hy : ev l y = some (.int k q)) : Val P l w ⟨d, .binOp .leq t x y t', ty, pos, af, g⟩ (.bool (decide (p ≤ q))) := fun n a h => by
  rw [ex_bin, h.ev hx, h.ev hy]
  cases k <;> rfl
theorem v_gt (hx : ev l x = some (.int k p)) (hy : ev l y = some (.int k q)) : Val P l w ⟨d, .binOp .gtr t x y t', ty, pos, af, g⟩ (.bool (decide (q < p))) := fun n a h => by
  rw [ex_bin, h.ev hx, h.ev hy]
  cases k <;> rfl
theorem v_ge (hx : ev l x = some (.int k p)) (hy : ev l y = some (.int k q)) : Val P l w ⟨d, .binOp .geq t x y t', ty, pos, af, g⟩ (.bool (decide (q ≤ p))) := fun n a h => by
  rw [ex_bin, h.ev hx, h.ev hy]
  cases k <;> rfl

theorem v_addw (hx : ev l x = some (.int k p)) (hy : ev l y = some (.int k q)) : Val P l w ⟨d, .binOp .add t x y t', ty, pos, af, g⟩ (.int k (k.wrap (p + q))) := fun n a h => by
  rw [ex_bin, h.ev hx, h.ev hy]
  cases k <;> rfl
theorem v_subw (hx : ev l x = some (.int k p)) (hy : ev l y = some (.int k q)) : Val P l w ⟨d, .binOp .sub t x y t', ty, pos, af, g⟩ (.int k (k.wrap (p - q))) := fun n a h => by
  rw [ex_bin, h.ev hx, h.ev hy]
  cases k <;> rfl
theorem v_mulw (hx : ev l x = some (.int k p)) (hy : ev l y = some (.int k q)) : Val P l w ⟨d, .binOp .mul t x y t', ty, pos, af, g⟩ (.int k (k.wrap (p * q))) := fun n a h => by
  rw [ex_bin, h.ev hx, h.ev hy]
  cases k <;> rfl
theorem v_add (hx : ev l x = some (.int k p)) (hy : ev l y = some (.int k q)) (hw : k.wrap (p + q) = p + q) : Val P l w ⟨d, .binOp .add t x y t', ty, pos, af, g⟩ (.int k (p + q)) := fun n a h => by
  have e := v_addw (P := P) (w := w) (d := d) (t := t) (t' := t') (ty := ty) (pos := pos) (af := af) (g := g) hx hy n a h
  rwa [hw] at e
theorem v_sub (hx : ev l x = some (.int k p)) (hy : ev l y = some (.int k q)) (hw : k.wrap (p - q) = p - q) : Val P l w ⟨d, .binOp .sub t x y t', ty, pos, af, g⟩ (.int k (p - q)) := fun n a h => by
  have e := v_subw (P := P) (w := w) (d := d) (t := t) (t' := t') (ty := ty) (pos := pos) (af := af) (g := g) hx hy n a h
  rwa [hw] at e
theorem v_mul (hx : ev l x = some (.int k p)) (hy : ev l y = some (.int k q)) (hw : k.wrap (p * q) = p * q) : Val P l w ⟨d, .binOp .mul t x y t', ty, pos, af, g⟩ (.int k (p * q)) := fun n a h => by
  have e := v_mulw (P := P) (w := w) (d := d) (t := t) (t' := t') (ty := ty) (pos := pos) (af := af) (g := g) hx hy n a h
  rwa [hw] at e
theorem v_quow (hx : ev l x = some (.int k p)) (hy : ev l y = some (.int k q)) (h0 : q ≠ 0) : Val P l w ⟨d, .binOp .quo t x y t', ty, pos, af, g⟩ (.int k (k.wrap (p.tdiv q))) := fun n a h => by
  rw [ex_bin, h.ev hx, h.ev hy]
  have e : (binOp .quo t (.int k p) (.int k q)).run P w = .ok (.int k (k.wrap (p.tdiv q))) w := by
    have e1 : binOp .quo t (.int k p) (.int k q) = Op.intDiv .quo k p q := by cases k <;> rfl
    rw [e1]
    simp [Op.intDiv, h0]
  have e2 : eqGuard .quo t x y (.int k p) (.int k q) = pure () := rfl
  simp [e2, e]
theorem v_quo (hx : ev l x = some (.int k p)) (hy : ev l y = some (.int k q)) (h0 : q ≠ 0) (hw : k.wrap (p.tdiv q) = p.tdiv q) : Val P l w ⟨d, .binOp .quo t x y t', ty, pos, af, g⟩ (.int k (p.tdiv q)) := fun n a h => by
  have e := v_quow (P := P) (w := w) (d := d) (t := t) (t' := t') (ty := ty) (pos := pos) (af := af) (g := g) hx hy h0 n a h
  rwa [hw] at e
theorem v_rem (hx : ev l x = some (.int k p)) (hy : ev l y = some (.int k q)) (h0 : q ≠ 0) : Val P l w ⟨d, .binOp .rem t x y t', ty, pos, af, g⟩ (.int k (p.tmod q)) := fun n a h => by
  rw [ex_bin, h.ev hx, h.ev hy]
  have e : (binOp .rem t (.int k p) (.int k q)).run P w = .ok (.int k (p.tmod q)) w := by
    have e1 : binOp .rem t (.int k p) (.int k q) = Op.intDiv .rem k p q := by cases k <;> rfl
    rw [e1]
    simp [Op.intDiv, h0]
  have e2 : eqGuard .rem t x y (.int k p) (.int k q) = pure () := rfl
  simp [e2, e]

theorem v_not {b : Bool} (hx : ev l x = some (.bool b)) : Val P l w ⟨d, .unOp .not t x, ty, pos, af, g⟩ (.bool (!b)) := fun n a h => by
  simp [ex_un, h.ev hx, Op.unary]
theorem v_neg (hx : ev l x = some (.int k p)) (hw : k.wrap (-p) = -p) : Val P l w ⟨d, .unOp .neg t x, ty, pos, af, g⟩ (.int k (-p)) := fun n a h => by
  simp [ex_un, h.ev hx, Op.unary, Op.intArith, hw]
theorem v_negw (hx : ev l x = some (.int k p)) : Val P l w ⟨d, .unOp .neg t x, ty, pos, af, g⟩ (.int k (k.wrap (-p))) := fun n a h => by
  simp [ex_un, h.ev hx, Op.unary, Op.intArith]

theorem run_equalIn_bool (m : Nat) (ht : P.underlying t = some .bool) (b b' : Bool) : (Op.equalIn (m + 1) t (.bool b) (.bool b')).run P w = .ok (b == b') w := by
  simp [Op.equalIn, run_underlying ht]
theorem beq_dec {α : Type} [BEq α] [LawfulBEq α] [DecidableEq α] (a b : α) : (a == b) = decide (a = b) := by
  rw [Bool.eq_iff_iff]
  simp
theorem v_beq {b b' : Bool} (ht : P.underlying t = some .bool) (hx : ev l x = some (.bool b)) (hy : ev l y = some (.bool b')) : Val P l w ⟨d, .binOp .eql t x y t', ty, pos, af, g⟩ (.bool (b == b')) := fun n a h => by
  rw [ex_bin, h.ev hx, h.ev hy]
  have e : (Op.equal t (.bool b) (.bool b')).run P w = .ok (b == b') w := run_equalIn_bool 9999 ht b b'
  have e1 : binOp .eql t (.bool b) (.bool b') = (do pure (.bool ((← Op.equal t (.bool b) (.bool b'))))) := rfl
  have e2 : eqGuard .eql t x y (.bool b) (.bool b') = pure () := rfl
  rw [e1, e2]
  simp only [Sem.run_bind, Sem.run_pure, Result.andThen_ok, e]
theorem v_bne {b b' : Bool} (ht : P.underlying t = some .bool) (hx : ev l x = some (.bool b)) (hy : ev l y = some (.bool b')) : Val P l w ⟨d, .binOp .neq t x y t', ty, pos, af, g⟩ (.bool (!(b == b'))) := fun n a h => by
  rw [ex_bin, h.ev hx, h.ev hy]
  have e : (Op.equal t (.bool b) (.bool b')).run P w = .ok (b == b') w := run_equalIn_bool 9999 ht b b'
  have e1 : binOp .neq t (.bool b) (.bool b') = (do pure (.bool (!(← Op.equal t (.bool b) (.bool b'))))) := rfl
  have e2 : eqGuard .neq t x y (.bool b) (.bool b') = pure () := rfl
  rw [e1, e2]
  simp only [Sem.run_bind, Sem.run_pure, Result.andThen_ok, e]

theorem S_toList (m : List UInt8) : (⟨m.toArray⟩ : ByteArray).toList = m := by
  simp

theorem v_seq {m m' : List UInt8} (hx : ev l x = some (S m)) (hy : ev l y = some (S m')) : Val P l w ⟨d, .binOp .eql t x y t', ty, pos, af, g⟩ (.bool (decide (m = m'))) := fun n a h => by
  rw [ex_bin, h.ev hx, h.ev hy]
  have e1 : binOp .eql t (S m) (S m') = Op.stringOp .eql ⟨m.toArray⟩ ⟨m'.toArray⟩ := rfl
  have e2 : eqGuard .eql t x y (S m) (S m') = pure () := rfl
  rw [e1, e2]
  simp [Op.stringOp, beq_dec]
theorem v_sne {m m' : List UInt8} (hx : ev l x = some (S m)) (hy : ev l y = some (S m')) : Val P l w ⟨d, .binOp .neq t x y t', ty, pos, af, g⟩ (.bool (!decide (m = m'))) := fun n a h => by
  rw [ex_bin, h.ev hx, h.ev hy]
  have e1 : binOp .neq t (S m) (S m') = Op.stringOp .neq ⟨m.toArray⟩ ⟨m'.toArray⟩ := rfl
  have e2 : eqGuard .neq t x y (S m) (S m') = pure () := rfl
  rw [e1, e2]
  simp [Op.stringOp, beq_dec]
theorem v_sadd {m m' : List UInt8} (hx : ev l x = some (S m)) (hy : ev l y = some (S m')) (hl : m.length + m'.length ≤ 9223372036854775807) : Val P l w ⟨d, .binOp .add t x y t', ty, pos, af, g⟩ (S (m ++ m')) := fun n a h => by
  rw [ex_bin, h.ev hx, h.ev hy]
  have e : (Op.stringOp .add ⟨m.toArray⟩ ⟨m'.toArray⟩).run P w = .ok (.string (⟨m.toArray⟩ ++ ⟨m'.toArray⟩)) w := run_string_add_sum (P := P) w _ _ (by simpa [ByteArray.size] using hl)
  have e3 : (⟨m.toArray⟩ ++ ⟨m'.toArray⟩ : ByteArray) = ⟨(m ++ m').toArray⟩ := by
    apply ByteArray.ext
    simp
  have e1 : binOp .add t (S m) (S m') = Op.stringOp .add ⟨m.toArray⟩ ⟨m'.toArray⟩ := rfl
  have e2 : eqGuard .add t x y (S m) (S m') = pure () := rfl
  rw [e1, e2]
  simp [e, e3]

theorem v_slen {m : List UInt8} {t : TypeId} (ht : P.underlying t = some .string) (hx : ev l x = some (S m)) : Val P l w ⟨d, .call { callee := .builtin .len, args := #[x], argTypes := #[t] }, ty, pos, af, g⟩ (.int .i64 m.length) := fun n a h => by
  have e : execOp a.eval ⟨d, .call { callee := .builtin .len, args := #[x], argTypes := #[t] }, ty, pos, af, g⟩ = Builtin.len_ #[t] ty (#[x].map a.eval) >>= fun v => pure (.value v) := rfl
  rw [e]
  have e2 : (⟨m.toArray⟩ : ByteArray).size = m.length := rfl
  simp [h.ev hx, Builtin.len_, run_underlying ht, goInt, e2]

theorem v_sidx {m : List UInt8} (ht : P.underlying t = some .string) (hx : ev l x = some (S m)) (hy : ev l y = some (.int k p)) (hb : 0 ≤ p ∧ p < m.length) : Val P l w ⟨d, .index t x y, ty, pos, af, g⟩ (.int .u8 (bt m p)) := fun n a h => by
  obtain ⟨h0, h1⟩ := hb
  have hlt : p.toNat < m.length := by omega
  have hlt' : p.toNat < (⟨m.toArray⟩ : ByteArray).size := by simpa [ByteArray.size] using hlt
  have e : (⟨m.toArray⟩ : ByteArray)[p.toNat]? = some (m[p.toNat]) := by
    rw [ByteArray.getElem?_lt' _ _ hlt']
    rfl
  rw [ex_index, h.ev hx, h.ev hy]
  simp [Instr.index, asIntOf, run_underlying ht, h0, e, bt, List.getD, hlt]

theorem cutS_extract (m : List UInt8) (lo hi : Nat) : (⟨m.toArray⟩ : ByteArray).extract lo hi = ⟨((m.take hi).drop lo).toArray⟩ := by
  apply ByteArray.ext
  apply Array.toList_inj.1
  simp [List.drop_take]
theorem run_bind_slice {v : Value} {lo hi : Option Value} (ht : P.underlying t = some .string) : ((Instr.sliceAt t v lo hi none) >>= fun v => (pure (.value v) : Sem Next)).run P w = ((Instr.slice t v lo hi none) >>= fun v => (pure (.value v) : Sem Next)).run P w := by
  simp [Instr.sliceAt, run_underlying ht]
theorem v_scut {m : List UInt8} {lo hi : Operand} {k1 k2 : IntKind} (ht : P.underlying t = some .string) (hx : ev l x = some (S m)) (h1 : ev l lo = some (.int k1 p)) (h2 : ev l hi = some (.int k2 q)) (hb : 0 ≤ p ∧ p ≤ q ∧ q ≤ m.length) :
    Val P l w ⟨d, .slice t x (some lo) (some hi) none, ty, pos, af, g⟩ (S (cutS m p q)) := fun n a h => by
  obtain ⟨b0, b1, b2⟩ := hb
  have e : execOp a.eval ⟨d, .slice t x (some lo) (some hi) none, ty, pos, af, g⟩ = Instr.sliceAt t (a.eval x) (some (a.eval lo)) (some (a.eval hi)) none >>= fun v => pure (.value v) := rfl
  have e2 : (⟨m.toArray⟩ : ByteArray).size = m.length := rfl
  rw [e, h.ev hx, h.ev h1, h.ev h2, run_bind_slice ht]
  simp [Instr.slice, run_underlying ht, Instr.sliceBounds, Instr.sliceBound, asIntOf, e2, b0, b1, b2, cutS, cutS_extract, show 0 ≤ q by omega]
  intro hh
  exfalso
  omega
theorem v_scutHi {m : List UInt8} {hi : Operand} {k2 : IntKind} (ht : P.underlying t = some .string) (hx : ev l x = some (S m)) (h2 : ev l hi = some (.int k2 q)) (hb : 0 ≤ q ∧ q ≤ m.length) :
    Val P l w ⟨d, .slice t x none (some hi) none, ty, pos, af, g⟩ (S (cutS m 0 q)) := fun n a h => by
  obtain ⟨b0, b1⟩ := hb
  have e : execOp a.eval ⟨d, .slice t x none (some hi) none, ty, pos, af, g⟩ = Instr.sliceAt t (a.eval x) none (some (a.eval hi)) none >>= fun v => pure (.value v) := rfl
  have e2 : (⟨m.toArray⟩ : ByteArray).size = m.length := rfl
  rw [e, h.ev hx, h.ev h2, run_bind_slice ht]
  simp [Instr.slice, run_underlying ht, Instr.sliceBounds, Instr.sliceBound, asIntOf, e2, b0, b1, cutS, cutS_extract]
theorem v_scutLo {m : List UInt8} {lo : Operand} {k1 : IntKind} (ht : P.underlying t = some .string) (hx : ev l x = some (S m)) (h1 : ev l lo = some (.int k1 p)) (hb : 0 ≤ p ∧ p ≤ m.length) :
    Val P l w ⟨d, .slice t x (some lo) none none, ty, pos, af, g⟩ (S (cutS m p m.length)) := fun n a h => by
  obtain ⟨b0, b1⟩ := hb
  have e : execOp a.eval ⟨d, .slice t x (some lo) none none, ty, pos, af, g⟩ = Instr.sliceAt t (a.eval x) (some (a.eval lo)) none none >>= fun v => pure (.value v) := rfl
  have e2 : (⟨m.toArray⟩ : ByteArray).size = m.length := rfl
  rw [e, h.ev hx, h.ev h1, run_bind_slice ht]
  simp [Instr.slice, run_underlying ht, Instr.sliceBounds, Instr.sliceBound, asIntOf, e2, b0, b1, cutS, cutS_extract]

theorem v_extract {vs : Array Value} {i : Nat} (hx : ev l x = some (.tuple vs)) (hi : vs.toList[i]? = some V) : Val P l w ⟨d, .extract x i, ty, pos, af, g⟩ V := fun n a h => by
  have hi' : vs[i]? = some V := by simpa using hi
  have e : execOp a.eval ⟨d, .extract x i, ty, pos, af, g⟩ = Instr.extract (a.eval x) i >>= fun v => pure (.value v) := rfl
  rw [e, h.ev hx]
  simp [Instr.extract, hi']
theorem v_convInt (ht : (P.underlying t).isSome = true) (ht' : P.underlying t' = some (.int k')) (hx : ev l x = some (.int k p)) (hw : k'.wrap p = q) : Val P l w ⟨d, .convert t t' x, ty, pos, af, g⟩ (.int k' q) := fun n a h => by
  have e : execOp a.eval ⟨d, .convert t t' x, ty, pos, af, g⟩ = convert t t' (a.eval x) >>= fun v => pure (.value v) := rfl
  rw [e, h.ev hx]
  obtain ⟨d0, hd0⟩ := Option.isSome_iff_exists.mp ht
  simp [convert, run_underlying hd0, run_underlying ht', Conv.intToInt, hw]

end
end Go.Stp
