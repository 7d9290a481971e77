/- The step library, tenth part: functions told as partial functions; what is frozen in memory; the steps over both. -/
import Derived.Test.YtlpfcclecmalhaaDoorStpF
set_option linter.unusedSimpArgs false
set_option linter.unusedVariables false
set_option linter.unusedSectionVars false
namespace Go.Stp
open Go.RowKit

/-! ### how a function is told -/
section
variable {α β σ ρ : Type}
def bindv (x : α) (f : α → β) : β := f x
def chk (p : Prop) [Decidable p] (A : Option β) : Option β := if p then A else none
def obind (x : Option α) (f : α → Option β) : Option β := match x with
  | none => none
  | some a => f a
def loopF (B : (σ → Option ρ) → σ → Option ρ) : Nat → σ → Option ρ
  | 0, _ => none
  | k + 1, s => B (loopF B k) s
theorem bv {x : α} {f : α → β} {r : β} (h : bindv x f = r) : ∃ z, z = x ∧ f z = r := ⟨x, rfl, h⟩
theorem ck {p : Prop} [Decidable p] {A : Option β} {r : β} (h : chk p A = some r) : p ∧ A = some r := by
  unfold chk at h
  split at h
  · exact ⟨by assumption, h⟩
  · cases h
theorem bo {x : Option α} {f : α → Option β} {r : β} (h : obind x f = some r) : ∃ y, x = some y ∧ f y = some r := by
  cases x with
  | none => cases h
  | some a => exact ⟨a, rfl, h⟩
theorem ifT {b : Bool} {A B r : α} (e : b = true) (h : (if b = true then A else B) = r) : A = r := by rwa [if_pos e] at h
theorem ifF {b : Bool} {A B r : α} (e : b = false) (h : (if b = true then A else B) = r) : B = r := by
  rw [if_neg (by rw [e]; exact Bool.false_ne_true)] at h
  exact h
theorem lp0 {B : (σ → Option ρ) → σ → Option ρ} {s : σ} {r : ρ} (h : loopF B 0 s = some r) : False := by cases h
theorem lpS {B F : (σ → Option ρ) → σ → Option ρ} {s : σ} {r : ρ} {k : Nat} (e : B = F) (h : loopF B (k + 1) s = some r) : ∃ next, next = loopF B k ∧ F next s = some r := ⟨_, rfl, by rw [← e]; exact h⟩
theorem lpX {B F : (σ → Option ρ) → σ → Option ρ} {s : σ} {r : ρ} {k : Nat} (e : B = F) (h : loopF B k s = some r) : ∃ k', k = k' + 1 ∧ ∃ next, next = loopF B k' ∧ F next s = some r := by
  cases k with
  | zero => cases h
  | succ k => exact ⟨k, rfl, lpS e h⟩
theorem lpN {B : (σ → Option ρ) → σ → Option ρ} {next : σ → Option ρ} {s : σ} {r : ρ} {k : Nat} (e : next = loopF B k) (h : next s = some r) : loopF B k s = some r := by rw [← e]; exact h
theorem so {a b : α} (h : some a = some b) : a = b := Option.some.inj h
/-- More rounds than any loop here has. -/
def KK : Nat := 2 ^ 80
/-- An element of a list. -/
def gel [Inhabited α] (l : List α) (i : Int) : α := l.getD i.toNat default
theorem gel_some [Inhabited α] {l : List α} {i : Int} (h : 0 ≤ i ∧ i < (l.length : Int)) : l[i.toNat]? = some (gel l i) := getD_some l _ _ (by omega)
end
section
variable {P : Program} {l : List (Nat × Value)} {w : World} {o : Oper}
theorem vI {k : IntKind} {z Z : Int} (e : z = Z) (h : Val P l w o (.int k Z)) : Val P l w o (.int k z) := by rw [e]; exact h
theorem vB {z Z : Bool} (e : z = Z) (h : Val P l w o (.bool Z)) : Val P l w o (.bool z) := by rw [e]; exact h
theorem vS {z Z : List UInt8} (e : z = Z) (h : Val P l w o (S Z)) : Val P l w o (S z) := by rw [e]; exact h
end

/-! ### what is frozen -/
abbrev FZ := Nat → Option Obj
def FZ.sub (Z Z' : FZ) : Prop := ∀ b o, Z b = some o → Z' b = some o
/-- What is cells. -/
def FZ.subC (Z Z' : FZ) : Prop := ∀ b cs e fz, Z b = some (.cells cs e fz) → Z' b = some (.cells cs e fz)
theorem FZ.sub.c {Z Z' : FZ} (h : Z.sub Z') : Z.subC Z' := fun b _ _ _ e => h b _ e
def FZ.inn (Z : FZ) (w : World) : Prop := ∀ b o, Z b = some o → w.heap[b]? = some o
def hz (w : World) : FZ := fun b => w.heap[b]?
/-- Z, and all that lies behind B in w. -/
def ZB (Z : FZ) (B : Nat) (w : World) : FZ := fun b => if B ≤ b then w.heap[b]? else Z b
def Z0 : FZ := fun _ => none
theorem FZ.sub.refl (Z : FZ) : Z.sub Z := fun _ _ h => h
theorem FZ.sub.trans {Z Z' Z'' : FZ} (h : Z.sub Z') (k : Z'.sub Z'') : Z.sub Z'' := fun b o e => k b o (h b o e)
theorem FZ.inn.ext {Z : FZ} {w w' : World} (h : Z.inn w) (X : Ext w w') : Z.inn w' := fun b o e => X.block (h b o e)
theorem hz_inn (w : World) : (hz w).inn w := fun _ _ h => h
theorem FZ.inn.hz {Z : FZ} {w : World} (h : Z.inn w) : Z.sub (Stp.hz w) := h
theorem ZB.inn {Z : FZ} {B : Nat} {w : World} (h : Z.inn w) : (ZB Z B w).inn w := fun b o e => by
  unfold ZB at e
  split at e
  · exact e
  · exact h b o e
theorem ZB.mono {Z Z' : FZ} {B B' : Nat} {w w' : World} (hZ : Z.sub Z') (hB : B' ≤ B) (X : Ext w w') (hh : ∀ b o, B' ≤ b → b < B → Z b = some o → w'.heap[b]? = some o) : (ZB Z B w).sub (ZB Z' B' w') := fun b o e => by
  unfold ZB at e ⊢
  split at e
  · rw [if_pos (by omega)]
    exact X.block e
  · split
    · exact hh b o (by assumption) (by omega) e
    · exact hZ b o e
theorem ZB.grow {Z : FZ} {B : Nat} {w w' : World} (X : Ext w w') : (ZB Z B w).sub (ZB Z B w') := ZB.mono (FZ.sub.refl Z) (Nat.le_refl _) X (fun _ _ h1 h2 => by omega)
theorem ZB.empty {Z : FZ} {B : Nat} {w : World} : (ZB Z0 B w).sub (ZB Z B w) := fun b o e => by
  unfold ZB at e ⊢
  split at e
  · rw [if_pos (by assumption)]; exact e
  · cases e
theorem ZB.back {Z : FZ} {w1 w w' : World} (X : Ext w1 w) (_Y : Ext w w') : (ZB Z0 w.heap.size w').sub (ZB Z w1.heap.size w') := fun b o e => by
  unfold ZB at e ⊢
  split at e
  · have := X.size
    rw [if_pos (by omega)]
    exact e
  · cases e
theorem ZB.back2 {Z : FZ} {w1 w w' : World} (X : Ext w1 w) (Y : Ext w w') : (ZB (ZB Z w1.heap.size w) w.heap.size w').sub (ZB Z w1.heap.size w') := fun b o e => by
  have := X.size
  unfold ZB at e ⊢
  by_cases h : w.heap.size ≤ b
  · rw [if_pos h] at e
    rw [if_pos (by omega)]
    exact e
  · rw [if_neg h] at e
    by_cases h' : w1.heap.size ≤ b
    · rw [if_pos h'] at e ⊢
      exact Y.block e
    · rw [if_neg h'] at e ⊢
      exact e
theorem ZB.of {Z : FZ} {w w' : World} (h : Z.inn w) (X : Ext w w') : Z.sub (ZB Z w.heap.size w') := fun b o e => by
  unfold ZB
  split
  · exact X.block (h b o e)
  · exact e

/-- A slice reads as data, out of what is frozen. -/
def RdZ {α : Type} (Z : FZ) (v : Value) (sz : Nat) (enc : α → List Value) (data : List α) : Prop :=
  (v = .slice none 0 0 ∧ data = []) ∨ ∃ (g o cap : Nat) (cs : List Value) (e : TypeId) (fz : Nat × Nat), v = .slice (some ⟨g, o, none⟩) data.length cap ∧ data.length ≤ cap ∧ Z g = some (.cells cs.toArray e fz) ∧ ∀ j u, (data.flatMap enc)[j]? = some u → cs[o + j]? = some u
section
variable {α : Type} {Z Z' : FZ} {v : Value} {sz : Nat} {enc : α → List Value} {data : List α} {w : World}
theorem RdZ.at (h : RdZ Z v sz enc data) (hz : Z.inn w) : Reads w v sz enc data := by
  rcases h with h | ⟨g, o, cap, cs, e, fz, h1, _, h2, h3⟩
  · exact .inl h
  · exact .inr ⟨g, o, cap, cs, e, fz, h1, hz _ _ h2, h3⟩
theorem RdZ.subC (h : RdZ Z v sz enc data) (hz : Z.subC Z') : RdZ Z' v sz enc data := by
  rcases h with h | ⟨g, o, cap, cs, e, fz, h1, hc, h2, h3⟩
  · exact .inl h
  · exact .inr ⟨g, o, cap, cs, e, fz, h1, hc, hz _ _ _ _ h2, h3⟩
theorem RdZ.sub (h : RdZ Z v sz enc data) (hz : Z.sub Z') : RdZ Z' v sz enc data := h.subC hz.c
theorem RdZ.hz (h : RdZ Z v sz enc data) (hi : Z.inn w) : RdZ (Stp.hz w) v sz enc data := h.sub hi.hz
theorem RdZ.nil : RdZ Z (.slice none 0 0) sz enc ([] : List α) := .inl ⟨rfl, rfl⟩
/-- A row of the call's own, as what it hands back. -/
theorem RdZ.row {B n : Nat} {e : TypeId} (h : w.ownsRow B e sz v n (data.flatMap enc)) (hn : n = data.length) : RdZ (ZB Z0 B w) v sz enc data := by
  subst hn
  rcases h.2 with ⟨hv, h0⟩ | ⟨g, cap, cur, hv, hB, hg, hnc, _, _, ht⟩
  · exact .inl ⟨hv, List.eq_nil_of_length_eq_zero h0⟩
  · refine .inr ⟨g, 0, cap, cur.toList, e, (0, 0), hv, hnc, ?_, fun j u hu => ?_⟩
    · unfold ZB
      rw [if_pos hB]
      simpa using hg
    · rw [← ht, List.getElem?_take] at hu
      rw [Nat.zero_add]
      split at hu
      · exact hu
      · cases hu
end

/-- The call began in w0, with Zi frozen; it owns these; Z is frozen now. -/
structure HZ (w0 : Bs) (Zi Z : FZ) (hl : List Own) (w : World) : Prop where
  hp : Hp w0 hl w
  zin : Z.inn w
  off : ∀ o ∈ hl, ∀ b, o.at = some b → Z b = none
  sub : Zi.sub Z
  new : ∀ b o, Z b = some o → Zi b = some o ∨ w0.heap.size ≤ b ∨ b ∈ w0.L

section
variable {w0 : Bs} {w w' w1 : World} {Zi Z : FZ} {hl : List Own}
theorem HZ.start (w : World) : HZ w (hz w) (hz w) [] w := ⟨Hp.start w, hz_inn w, (fun _ h => by cases h), FZ.sub.refl _, fun _ _ h => .inl h⟩
theorem HZ.startZ {w : World} (h : Z.inn w) : HZ w Z Z [] w := ⟨Hp.start w, h, (fun _ h => by cases h), FZ.sub.refl _, fun _ _ h => .inl h⟩
theorem HZ.ext (H : HZ w0 Zi Z hl w) (X : Ext w w') : HZ w0 Zi Z hl w' := ⟨H.hp.ext X, H.zin.ext X, H.off, H.sub, H.new⟩
theorem HZ.out {w0 : World} (H : HZ w0 Zi Z hl w) : Ext w0 w := H.hp.out
theorem HZ.outB (H : HZ w0 Zi Z hl w) : ExtB w0 w := H.hp.outB
theorem HZ.sz (H : HZ w0 Zi Z hl w) : w0.heap.size ≤ w.heap.size := H.hp.outB.size
theorem HZ.lt (H : HZ w0 Zi Z hl w) : ∀ x ∈ hl, ∀ b, x.at = some b → b < w.heap.size := Own.at_lt H.hp
theorem HZ.zlt (H : HZ w0 Zi Z hl w) {b : Nat} (h : w.heap.size ≤ b) : Z b = none := by
  cases hb : Z b with
  | none => rfl
  | some o =>
    have := (Array.getElem?_eq_some_iff.1 (H.zin b o hb)).1
    omega
theorem HZ.push (H : HZ w0 Zi Z hl w) (X : Ext w w') (o : Own) (ho : o.holds w') (hn : ∀ b, o.at = some b → w.heap.size ≤ b) : HZ w0 Zi Z (hl ++ [o]) w' :=
  ⟨H.hp.push X o ho hn, H.zin.ext X, fun x hx b hb => by
    rcases List.mem_append.1 hx with hx | hx
    · exact H.off x hx b hb
    · obtain rfl : x = o := by simpa using hx
      exact H.zlt (hn b hb), H.sub, H.new⟩
theorem HZ.turn (H : HZ w0 Zi Z hl w) (i : Nat) {o o' : Own} (hi : hl[i]? = some o) (H' : Hp w0 (hl.set i o') w') (hs : ∀ b, b < w.heap.size → o.at ≠ some b → w'.heap[b]? = w.heap[b]?)
    (hat : ∀ b, o'.at = some b → o.at = some b ∨ w.heap.size ≤ b) : HZ w0 Zi Z (hl.set i o') w' := by
  have hm : o ∈ hl := List.mem_of_getElem? hi
  refine ⟨H', fun b u hb => ?_, fun x hx b hb => ?_, H.sub, H.new⟩
  · have h1 := H.zin b u hb
    rw [hs b (Array.getElem?_eq_some_iff.1 h1).1 (fun e => by have := H.off o hm b e; rw [hb] at this; cases this)]
    exact h1
  · rcases List.mem_or_eq_of_mem_set hx with hx | rfl
    · exact H.off x hx b hb
    · rcases hat b hb with h | h
      · exact H.off o hm b h
      · exact H.zlt h
theorem HZ.keepN (H : HZ w0 Zi Z hl w) (n : Nat) {hl' : List Own} (h : hl.take n = hl') : HZ w0 Zi Z hl' w :=
  ⟨H.hp.keepN n h, H.zin, fun o ho => H.off o (by subst h; exact List.mem_of_mem_take ho), H.sub, H.new⟩
/-- Behind a call: what it has laid is frozen. -/
theorem HZ.adopt (H : HZ w0 Zi Z hl w) (X : Ext w w') : HZ w0 Zi (ZB Z w.heap.size w') hl w' := by
  refine ⟨H.hp.ext X, ZB.inn (H.zin.ext X), fun o ho b hb => ?_, H.sub.trans (ZB.of H.zin X), fun b o hb => ?_⟩
  · have := H.lt o ho b hb
    unfold ZB
    rw [if_neg (by omega)]
    exact H.off o ho b hb
  · unfold ZB at hb
    split at hb
    · right; left
      have := H.sz
      omega
    · exact H.new b o hb
theorem HZ.adopt' (H : HZ w0 Zi Z hl w) (X : Ext w w') : ∃ Z', Z.sub Z' ∧ (ZB Z w.heap.size w').sub Z' ∧ HZ w0 Zi Z' hl w' := ⟨_, ZB.of H.zin X, FZ.sub.refl _, H.adopt X⟩
theorem HZ.rowZ {i : Nat} {α : Type} {enc : α → List Value} {sz : Nat} {out : List α} {sv : Value} {e : TypeId} (H : HZ w0 Zi Z hl w) (hi : hl[i]? = some (.row e sz sv out.length (out.flatMap enc))) : RdZ (hz w) sv sz enc out :=
  (RdZ.row (H.hp.getRow i hi) rfl).sub fun b o h => by
    unfold ZB at h
    split at h
    · exact h
    · cases h
/-- What the call hands back reads out of what was frozen and what is new. -/
theorem HZ.back {w0 : World} (H : HZ w0 Zi Z hl w) : Z.sub (ZB Zi w0.heap.size w) := fun b o hb => by
  unfold ZB
  split
  · exact H.zin b o hb
  · rename_i hn
    rcases H.new b o hb with h | h | h
    · exact h
    · exact absurd h hn
    · cases h
/-- Z, and all that is new or was lent, as it is in w. -/
def ZL (Z : FZ) (B : Bs) (w : World) : FZ := fun b => if B.heap.size ≤ b ∨ b ∈ B.L then w.heap[b]? else Z b
theorem HZ.backL (H : HZ w0 Zi Z hl w) : Z.sub (ZL Zi w0 w) := fun b o hb => by
  unfold ZL
  split
  · exact H.zin b o hb
  · rename_i hn
    exact (H.new b o hb).resolve_right hn
theorem HZ.pushF (H : HZ w0 Zi Z hl w1) (X : Ext w1 w) {b : Nat} {o : Obj} (hb : w.heap[b]? = some o) (hlo : w1.heap.size ≤ b) : HZ w0 Zi Z (hl ++ [.blk b o]) w :=
  H.push X (.blk b o) hb (fun b' h => by simp only [Own.at, Option.some.injEq] at h; omega)
theorem HZ.pushF2 (H : HZ w0 Zi Z hl w1) (X : Ext w1 w) {b b' : Nat} {o o' : Obj} (hb : w.heap[b]? = some o) (hlo : w1.heap.size ≤ b) (hb' : w.heap[b']? = some o') (hlo' : w1.heap.size ≤ b') (hne : b ≠ b') : HZ w0 Zi Z (hl ++ [.blk b o, .blk b' o']) w := by
  have H1 := H.pushF X hb hlo
  have H2 : Hp w0 ((hl ++ [.blk b o]) ++ [.blk b' o']) w := by
    refine Hp.add H1.hp (.blk b' o') hb' (fun c hc => by simp only [Own.at, Option.some.injEq] at hc; subst hc; exact .inl (Nat.le_trans H.sz hlo')) fun x hx c hc => ?_
    simp only [Own.at, ne_eq, Option.some.injEq]
    rcases List.mem_append.1 hx with hx | hx
    · have := H.lt x hx c hc
      omega
    · obtain rfl : x = .blk b o := by simpa using hx
      simp only [Own.at, Option.some.injEq] at hc
      omega
  rw [List.append_assoc] at H2
  refine ⟨H2, H1.zin, fun x hx c hc => ?_, H.sub, H.new⟩
  rcases List.mem_append.1 hx with hx | hx
  · exact H.off x hx c hc
  · simp only [List.mem_cons, List.not_mem_nil, or_false] at hx
    rcases hx with rfl | rfl <;> · simp only [Own.at, Option.some.injEq] at hc; subst hc; exact H.zlt (by assumption)
/-- A block that is new is frozen. -/
def FZ.add (Z : FZ) (b : Nat) (o : Obj) : FZ := fun c => if c = b then some o else Z c
theorem FZ.sub_add {b : Nat} {o : Obj} (h : Z b = none) : Z.sub (Z.add b o) := fun c u hc => by
  unfold FZ.add
  split
  · rename_i e; rw [e, h] at hc; cases hc
  · exact hc
theorem HZ.freeze (H : HZ w0 Zi Z hl w) (X : Ext w w') {b : Nat} {o : Obj} (hb : w'.heap[b]? = some o) (hlo : w.heap.size ≤ b) : HZ w0 Zi (Z.add b o) hl w' := by
  refine ⟨H.hp.ext X, fun c u hc => ?_, fun x hx c hc => ?_, H.sub.trans (FZ.sub_add (H.zlt hlo)), fun c u hc => ?_⟩
  · unfold FZ.add at hc
    split at hc
    · rename_i e; rw [e, hb]; exact hc
    · exact H.zin.ext X c u hc
  · have := H.lt x hx c hc
    unfold FZ.add
    rw [if_neg (by omega)]
    exact H.off x hx c hc
  · unfold FZ.add at hc
    split at hc
    · right; left; have := H.sz; omega
    · exact H.new c u hc
theorem RdZ.add {α : Type} {enc : α → List Value} {sz : Nat} {data : List α} {b c : Nat} {e : TypeId} {fz : Nat × Nat} {cs : List Value} (hd : data.flatMap enc = cs) (hc : data.length ≤ c) : RdZ (Z.add b (.cells cs.toArray e fz)) (.slice (some ⟨b, 0, none⟩) data.length c) sz enc data :=
  .inr ⟨b, 0, c, cs, e, fz, rfl, hc, by simp [FZ.add], fun j u hu => by rw [Nat.zero_add, ← hd]; exact hu⟩
end

/-! ### operations that lay memory, each for itself -/
section
variable {P : Program} {ops : Array Oper} {Q : Exit → Act → World → Prop} {rest : List Oper} {n : Nm} {dn : Nat} {l : List (Nat × Value)} {a : Act} {w : World} {w0 : Bs} {hl : List Own} {Zi Z : FZ}
  {d : Option Nat} {x y : Operand} {t t' ty : TypeId} {pos : String} {af : Array Edge} {g : Option (Nat × Bool)} {V V' : Value} {cs : List Value} {e : TypeId} {b off : Nat} {k : IntKind} {p : Int}

theorem d_alloc {z : Value} (hz : ∀ w, (zeroValue e).run P w = .ok z w) (zs : List Value) (hzs : z.cells.toList = zs) :
    Does P l w ⟨d, .alloc e, ty, pos, af, g⟩ (fun v w' => v = .pointer (some ⟨w.heap.size, 0, none⟩) ∧ w' = w.alloc (Cel zs e)) := fun n a h K Q hk => by
  have hzc : z.cells = zs.toArray := by rw [← hzs]
  have e1 : execOp a.eval ⟨d, .alloc e, ty, pos, af, g⟩ = Instr.alloc e true (.tuple #[]) >>= fun v => pure (.value v) := rfl
  have e2 : (execOp a.eval ⟨d, .alloc e, ty, pos, af, g⟩).run P w = .ok (.value (.pointer (some ⟨w.heap.size, 0, none⟩))) (w.alloc (Cel zs e)) := by
    rw [e1]
    simp [Instr.alloc, hz, newVar, newRow, hzc]
  unfold Oper.wp
  rw [e2]
  exact hk _ _ ⟨rfl, rfl⟩
theorem d_box (hx : ev l x = some V) (zs : List Value) (hzs : V.cells.toList = zs) :
    Does P l w ⟨d, .box e x, ty, pos, af, g⟩ (fun v w' => v = .pointer (some ⟨w.heap.size, 0, none⟩) ∧ w' = w.alloc (Cel zs e)) := fun n a h K Q hk => by
  have hzc : V.cells = zs.toArray := by rw [← hzs]
  have e1 : execOp a.eval ⟨d, .box e x, ty, pos, af, g⟩ = Instr.box e (a.eval x) >>= fun v => pure (.value v) := rfl
  have e2 : (execOp a.eval ⟨d, .box e x, ty, pos, af, g⟩).run P w = .ok (.value (.pointer (some ⟨w.heap.size, 0, none⟩))) (w.alloc (Cel zs e)) := by
    rw [e1, h.ev hx]
    simp [Instr.box, newVar, newRow, hzc]
  unfold Oper.wp
  rw [e2]
  exact hk _ _ ⟨rfl, rfl⟩
theorem d_slice {sz len : Nat} (ht : P.underlying t = some (.slice e)) (hs : ∀ w, (sizeOf e).run P w = .ok sz w) {z : Value} (hz : ∀ w, (zeroValue e).run P w = .ok z w) {ps : Array (Nat × Operand)} (hsz : (Nat.ble 1 (len * sz) && Nat.ble (len * sz) 1000) = true)
    {zl : List Value} (hzl : (Array.range (len * sz)).map (fun i => z.cells[i % z.cells.size]!) = zl.toArray) {pl : List (Nat × Nat)} (hp : ∀ i p, pl.toArray[i]? = some p → p = (i * sz, sz))
    (us : List Value) (cells : List Value) (hev : evs l (ps.toList.map (·.2)) = some us) (hf : fillL pl zl ((ps.toList.map (·.1)).zip us) = some cells) :
    Does P l w ⟨d, .buildSlice t len ps, ty, pos, af, g⟩ (fun v w' => v = .slice (some ⟨w.heap.size, 0, none⟩) len len ∧ w' = w.alloc (Cel cells e)) := fun n a h K Q hk => by
  simp only [Bool.and_eq_true, Nat.ble_eq] at hsz
  have e1 : execOp a.eval ⟨d, .buildSlice t len ps, ty, pos, af, g⟩ = Instr.buildSlice t len (ps.map fun (i, x) => (i, a.eval x)) >>= fun v => pure (.value v) := rfl
  have hp2 := h.evs hev
  have e3 : (ps.map fun (i, x) => (i, a.eval x)).toList = (ps.toList.map (·.1)).zip us := by
    rw [← hp2]
    simp only [Array.toList_map]
    induction ps.toList with
    | nil => rfl
    | cons q qs ih => simp [ih]
  have e5 := fill_more (f' := fun i => some (i * sz, sz)) (fun i p hi => by rw [hp i p hi]) _ _ _ (fill_of_fillL pl _ _ _ hf)
  have e2 : (execOp a.eval ⟨d, .buildSlice t len ps, ty, pos, af, g⟩).run P w = .ok (.value (.slice (some ⟨w.heap.size, 0, none⟩) len len)) (w.alloc (Cel cells e)) := by
    rw [e1]
    have h1 : ¬ (len * sz > 2 ^ 24) := by omega
    have h2 : ¬ (len * sz = 0) := by omega
    simp only [Instr.buildSlice, Sem.run_bind, run_underlying ht, Result.andThen_ok, hs, h1, if_false, h2, hz, Sem.run_pure, Sem.run_ite, hzl, e3, e5]
    simp [newRow]
  unfold Oper.wp
  rw [e2]
  exact hk _ _ ⟨rfl, rfl⟩

/-! ### and in a row -/
theorem z_alloc (h : Fr n l a) (H : HZ w0 Zi Z hl w) {z : Value} (hz : ∀ w, (zeroValue e).run P w = .ok z w) (zs : List Value) (hzs : z.cells.toList = zs) (hd : Nat.blt dn n.n = true)
    (k : ∀ a' b w', Ext w w' → HZ w0 Zi Z (hl ++ [.blk b (Cel zs e)]) w' → Fr n ((dn, .pointer (some ⟨b, 0, none⟩)) :: l) a' → wpList P ops Q rest a' w') :
    wpList P ops Q (⟨some dn, .alloc e, ty, pos, af, none⟩ :: rest) a w :=
  st_alloc h H.hp hz zs hzs hd fun a' b w' hb X _ h' => k a' b w' X (by
    refine H.push X _ ?_ (fun c hc => by simp only [Own.at, Option.some.injEq] at hc; omega)
    rename_i H'
    exact H'.get hl.length (by simp)) h'
theorem z_box (h : Fr n l a) (H : HZ w0 Zi Z hl w) (hx : ev l x = some V) (zs : List Value) (hzs : V.cells.toList = zs) (hd : Nat.blt dn n.n = true)
    (k : ∀ a' b w', Ext w w' → HZ w0 Zi Z (hl ++ [.blk b (Cel zs e)]) w' → Fr n ((dn, .pointer (some ⟨b, 0, none⟩)) :: l) a' → wpList P ops Q rest a' w') :
    wpList P ops Q (⟨some dn, .box e x, ty, pos, af, none⟩ :: rest) a w :=
  st_box h H.hp hx zs hzs hd fun a' b w' hb X _ h' => k a' b w' X (by
    refine H.push X _ ?_ (fun c hc => by simp only [Own.at, Option.some.injEq] at hc; omega)
    rename_i H'
    exact H'.get hl.length (by simp)) h'
theorem z_store (h : Fr n l a) (H : HZ w0 Zi Z hl w) (i : Nat) (hx : ev l x = some (.pointer (some ⟨b, off, none⟩))) (hy : ev l y = some V) (hi : hl[i]? = some (.blk b (Cel cs e)))
    {k : Nat} (hs : ∀ w, (sizeOf t).run P w = .ok k w) (vs : List Value) (hvs : V.cells.toList = vs) (hk : vs.length = k) (h1 : allOne vs = true) (hle : off + k ≤ cs.length)
    (cs' : List Value) (hcs : putAt cs off vs = cs') {hl' : List Own} (hhl : hl.set i (.blk b (Cel cs' e)) = hl')
    (kk : ∀ w', HZ w0 Zi Z hl' w' → wpList P ops Q rest a w') :
    wpList P ops Q (⟨none, .store t x y, ty, pos, af, none⟩ :: rest) a w :=
  st_store h H.hp i hx hy hi hs vs hvs hk h1 hle cs' hcs hhl fun w' H' hz hsm => kk w' (by
    subst hhl
    refine H.turn i hi H' (fun c _ hc => hsm c fun e => hc (by rw [e]; rfl)) (fun c hc => .inl (by simpa [Own.at] using hc)))
/-- '[]T{x, ..}': a new row, frozen. -/
theorem z_slice {α : Type} {enc : α → List Value} {sz len : Nat} (data : List α) (h : Fr n l a) (H : HZ w0 Zi Z hl w) (ht : P.underlying t = some (.slice e)) (hs : ∀ w, (sizeOf e).run P w = .ok sz w) {z : Value} (hz : ∀ w, (zeroValue e).run P w = .ok z w) {ps : Array (Nat × Operand)} (hsz : (Nat.ble 1 (len * sz) && Nat.ble (len * sz) 1000) = true)
    {zl : List Value} (hzl : (Array.range (len * sz)).map (fun i => z.cells[i % z.cells.size]!) = zl.toArray) {pl : List (Nat × Nat)} (hp : ∀ i p, pl.toArray[i]? = some p → p = (i * sz, sz))
    (us : List Value) (cells : List Value) (hev : evs l (ps.toList.map (·.2)) = some us) (hf : fillL pl zl ((ps.toList.map (·.1)).zip us) = some cells) (hd : Nat.blt dn n.n = true) (hlen : data.length = len) (hdt : data.flatMap enc = cells)
    (kk : ∀ a' v Z' w', Z.sub Z' → Ext w w' → HZ w0 Zi Z' hl w' → RdZ Z' v sz enc data → Fr n ((dn, v) :: l) a' → wpList P ops Q rest a' w') :
    wpList P ops Q (⟨some dn, .buildSlice t len ps, ty, pos, af, none⟩ :: rest) a w := by
  refine st2 h rfl rfl hd (d_slice (w := w) ht hs hz hsz hzl hp us cells hev hf) ?_
  rintro v w' ⟨rfl, rfl⟩ a' h'
  have hb : (w.alloc (Cel cells e)).heap[w.heap.size]? = some (Cel cells e) := heap_alloc_new w _
  subst hlen
  exact kk a' _ _ _ (FZ.sub_add (H.zlt (Nat.le_refl _))) (Ext.alloc _ _) (H.freeze (Ext.alloc w _) hb (Nat.le_refl _)) (RdZ.add hdt (Nat.le_refl _)) h'
/-- A nil slice that the call will append to. -/
theorem HZ.nilRow (H : HZ w0 Zi Z hl w) (e : TypeId) (sz : Nat) {hl' : List Own} (hh : hl ++ [.row e sz (.slice none 0 0) 0 []] = hl') : HZ w0 Zi Z hl' w := by
  subst hh
  refine ⟨H.hp.pushNil e sz, H.zin, fun x hx b hb => ?_, H.sub, H.new⟩
  rcases List.mem_append.1 hx with hx | hx
  · exact H.off x hx b hb
  · obtain rfl : x = .row e sz (.slice none 0 0) 0 [] := by simpa using hx
    simp [Own.at, Value.ownBlock] at hb
theorem z_slice0 {sz : Nat} (h : Fr n l a) (H : HZ w0 Zi Z hl w) (ht : P.underlying t = some (.slice e)) (hs : ∀ w, (sizeOf e).run P w = .ok sz w) (hd : Nat.blt dn n.n = true)
    (kk : ∀ a' v w', Ext w w' → HZ w0 Zi Z (hl ++ [.row e sz v 0 []]) w' → Fr n ((dn, v) :: l) a' → wpList P ops Q rest a' w') :
    wpList P ops Q (⟨some dn, .buildSlice t 0 #[], ty, pos, af, none⟩ :: rest) a w := by
  refine wpList_plain rfl fun K hK => ?_
  have e1 : execOp a.eval ⟨some dn, .buildSlice t 0 #[], ty, pos, af, none⟩ = Instr.buildSlice t 0 ((#[] : Array (Nat × Operand)).map fun (i, x) => (i, a.eval x)) >>= fun v => pure (.value v) := rfl
  have e2 : (execOp a.eval ⟨some dn, .buildSlice t 0 #[], ty, pos, af, none⟩).run P w = .ok (.value (.slice (some ⟨w.heap.size, 0, none⟩) 0 0)) (w.alloc (Cel [] e)) := by
    rw [e1]
    simp [Instr.buildSlice, run_underlying ht, hs, Instr.fill, newRow]
    have er : Array.map (fun _ => (default : Value)) (Array.range 0) = #[] := by
      apply Array.ext
      · simp
      · intro i h1
        simp at h1
    first | rfl | rw [er]
  unfold Oper.wp
  rw [e2]
  refine hK _ _ (kk _ _ _ (Ext.alloc _ _) ?_ (h.put hd _))
  exact H.push (Ext.alloc _ _) _ ⟨by simp, .inr ⟨w.heap.size, 0, #[], rfl, Nat.zero_le _, heap_alloc_new w _, Nat.le_refl _, by decide, by simp, by simp⟩⟩ (fun b hb => by simp only [Own.at, Value.ownBlock, Option.some.injEq] at hb; omega)

theorem flatMap_len' {α : Type} {enc : α → List Value} {sz : Nat} (henc : ∀ a, (enc a).length = sz) (data : List α) : (data.flatMap enc).length = data.length * sz := flatMap_len enc sz henc data

/-- append of a nil slice. -/
theorem run_append_none {sz bytes B m : Nat} {sv : Value} {xs : List Value} (ht : P.underlying t = some (.slice e)) (hinfo : (P.info? e).map (fun i => (i.zero.map (·.cells.size), i.size, i.bytes)) = some (some sz, sz, bytes)) (hrow : w.ownsRow B e sz sv m xs) :
    (Builtin.append_ #[t, t] ty #[sv, .slice none 0 0]).run P w = .ok sv w := by
  obtain ⟨inf, hi1, hi2⟩ := Option.map_eq_some_iff.1 hinfo
  rcases hrow.2 with ⟨hv, h0⟩ | ⟨g, cap, cur, hv, hB, hg, hnc, _, _, _⟩
  · subst hv
    simp [Builtin.append_, run_underlying ht, sizeOf, typeInfo, hi1, Builtin.lenOf, run_firstCells_none]
  · subst hv
    simp [Builtin.append_, run_underlying ht, sizeOf, typeInfo, hi1, Builtin.lenOf, run_firstCells_none, hnc, storeCells]
/-- append of what reads as data to a row of the call's own. -/
theorem z_append {α : Type} {enc : α → List Value} {sz bytes : Nat} {out data : List α} {sv yv : Value} (h : Fr n l a) (H : HZ w0 Zi Z hl w) (i : Nat) (hi : hl[i]? = some (.row e sz sv out.length (out.flatMap enc))) (ht : P.underlying t = some (.slice e))
    (hinfo : (P.info? e).map (fun i => (i.zero.map (·.cells.size), i.size, i.bytes)) = some (some sz, sz, bytes)) (hsz : Nat.ble 1 sz = true) (hx : ev l x = some sv) (hy : ev l y = some yv) (hr : RdZ Z yv sz enc data) (hne : data ≠ [])
    (henc : ∀ a, (enc a).length = sz) (h1 : ∀ a ∈ data, allOne (enc a) = true) (hmax : out.length + data.length ≤ 9223372036854775807 ∧ (out.length + data.length) * bytes ≤ 140737488355328) (hd : Nat.blt dn n.n = true)
    (kk : ∀ a' v' w', HZ w0 Zi Z (hl.set i (.row e sz v' (out ++ data).length ((out ++ data).flatMap enc))) w' → Fr n ((dn, v') :: l) a' → wpList P ops Q rest a' w') :
    wpList P ops Q (⟨some dn, .call { callee := .builtin .append, args := #[x, y], argTypes := #[t, t] }, ty, pos, af, none⟩ :: rest) a w := by
  rcases hr with ⟨_, h0⟩ | ⟨gb, o, cap, cs', e', fz', hv, _, hb, hc⟩
  · exact absurd h0 hne
  subst hv
  have hlen := flatMap_len' henc data
  have hnews : ((cs'.drop o).take (data.length * sz)) = data.flatMap enc := by
    apply List.ext_getElem?
    intro j
    rw [List.getElem?_take]
    split
    · rename_i hj
      rw [List.getElem?_drop]
      have : j < (data.flatMap enc).length := by rw [hlen]; exact hj
      rw [List.getElem?_eq_getElem this]
      exact hc j _ (List.getElem?_eq_getElem this)
    · rename_i hj
      rw [List.getElem?_eq_none (by rw [hlen]; omega)]
  have hall : ∀ u ∈ data.flatMap enc, u.oneCell' = true := fun u hu => by
    obtain ⟨a, hm, ha⟩ := List.mem_flatMap.1 hu
    exact allOne_mem (h1 a hm) u ha
  have hb' : w.heap[gb]? = some (.cells cs'.toArray e' fz') := H.zin _ _ hb
  refine wpList_plain rfl fun K hK => ?_
  obtain ⟨inf, hi1, hi2⟩ := Option.map_eq_some_iff.1 hinfo
  simp only [Prod.mk.injEq] at hi2
  obtain ⟨hz, hs2, hby⟩ := hi2
  obtain ⟨z, hz1, hz2⟩ := Option.map_eq_some_iff.1 hz
  have hszz : 1 ≤ sz := by simpa [Nat.ble_eq] using hsz
  have hrow := H.hp.getRow i hi
  obtain ⟨v', w', hrun, hown, hgrow, _, hloc⟩ := run_append_own_at (P := P) w 0 t ty e inf z sz bytes ht hi1 hz1 hs2 hby hz2 hszz sv out.length (out.flatMap enc) hrow ⟨gb, o, none⟩ data.length cap (data.flatMap enc) hlen
    (fun j u hu => by rw [Addr.add_lit, Cel_cell hb']; exact hc j u hu) hall (by simpa [maxLen] using hmax.1) hmax.2 (Nat.zero_le _)
  have e1 : execOp a.eval ⟨some dn, .call { callee := .builtin .append, args := #[x, y], argTypes := #[t, t] }, ty, pos, af, none⟩ = Builtin.append_ #[t, t] ty (#[x, y].map a.eval) >>= fun v => pure (.value v) := rfl
  have e2 : (execOp a.eval ⟨some dn, .call { callee := .builtin .append, args := #[x, y], argTypes := #[t, t] }, ty, pos, af, none⟩).run P w = .ok (.value v') w' := by
    rw [e1]
    simp [h.ev hx, h.ev hy, hrun]
  unfold Oper.wp
  rw [e2]
  have hsame : ∀ b', b' < w.heap.size → sv.ownBlock ≠ some b' → w'.heap[b']? = w.heap[b']? := fun b' hb' hne => hgrow.block b' hb' (fun e => hne e.symm)
  have hat : ∀ c, (Own.row e sz v' (out.length + data.length) (out.flatMap enc ++ data.flatMap enc)).at = some c → (Own.row e sz sv out.length (out.flatMap enc)).at = some c ∨ w.heap.size ≤ c := by
    intro c hc'
    simp only [Own.at] at hc' ⊢
    rcases hloc with e | e
    · exact .inl (by rw [← e]; exact hc')
    · rw [e] at hc'
      exact .inr (by simp only [Option.some.injEq] at hc'; omega)
  have HH := H.turn i hi (o' := .row e sz v' (out.length + data.length) (out.flatMap enc ++ data.flatMap enc)) (H.hp.turn i hi _ hown hgrow.os hgrow.tape hgrow.output hgrow.size (fun b' hb' hne => hsame b' hb' hne) hat) (fun c hc hne => hsame c hc hne) hat
  refine hK _ _ (kk _ v' w' ?_ (h.put hd _))
  rw [List.length_append, List.flatMap_append]
  exact HH
/-- append of whatever reads as data. -/
theorem z_appendS {α : Type} {enc : α → List Value} {sz bytes : Nat} {out data : List α} {sv yv : Value} (h : Fr n l a) (H : HZ w0 Zi Z hl w) (i : Nat) (hi : hl[i]? = some (.row e sz sv out.length (out.flatMap enc))) (ht : P.underlying t = some (.slice e))
    (hinfo : (P.info? e).map (fun i => (i.zero.map (·.cells.size), i.size, i.bytes)) = some (some sz, sz, bytes)) (hsz : Nat.ble 1 sz = true) (hx : ev l x = some sv) (hy : ev l y = some yv) (hr : RdZ Z yv sz enc data)
    (henc : ∀ a, (enc a).length = sz) (h1 : ∀ a ∈ data, allOne (enc a) = true) (hmax : out.length + data.length ≤ 9223372036854775807 ∧ (out.length + data.length) * bytes ≤ 140737488355328) (hd : Nat.blt dn n.n = true)
    (kk : ∀ a' v' w', HZ w0 Zi Z (hl.set i (.row e sz v' (out ++ data).length ((out ++ data).flatMap enc))) w' → Fr n ((dn, v') :: l) a' → wpList P ops Q rest a' w') :
    wpList P ops Q (⟨some dn, .call { callee := .builtin .append, args := #[x, y], argTypes := #[t, t] }, ty, pos, af, none⟩ :: rest) a w := by
  rcases hr with ⟨rfl, rfl⟩ | ⟨gb, o, cap, cs', e', fz', hv, hcap, hb, hc⟩
  · have e1 : execOp a.eval ⟨some dn, .call { callee := .builtin .append, args := #[x, y], argTypes := #[t, t] }, ty, pos, af, none⟩ = Builtin.append_ #[t, t] ty (#[x, y].map a.eval) >>= fun v => pure (.value v) := rfl
    have e2 : (execOp a.eval ⟨some dn, .call { callee := .builtin .append, args := #[x, y], argTypes := #[t, t] }, ty, pos, af, none⟩).run P w = .ok (.value sv) w := by
      rw [e1]
      have := run_append_none (P := P) (ty := ty) ht hinfo (H.hp.getRow i hi)
      simp [h.ev hx, h.ev hy, this]
    refine wpList_plain rfl fun K hK => ?_
    unfold Oper.wp
    rw [e2]
    refine hK _ _ (kk _ sv w ?_ (h.put hd sv))
    rw [List.append_nil]
    have : hl.set i (.row e sz sv out.length (out.flatMap enc)) = hl := by
      apply List.ext_getElem?
      intro j
      by_cases hj : i = j
      · subst hj
        rw [List.getElem?_set_self (List.getElem?_eq_some_iff.1 hi).1, hi]
      · rw [List.getElem?_set_ne hj]
    rw [this]
    exact H
  · subst hv
    have hlen := flatMap_len' henc data
    have hall : ∀ u ∈ data.flatMap enc, u.oneCell' = true := fun u hu => by
      obtain ⟨a, hm, ha⟩ := List.mem_flatMap.1 hu
      exact allOne_mem (h1 a hm) u ha
    have hb' : w.heap[gb]? = some (.cells cs'.toArray e' fz') := H.zin _ _ hb
    refine wpList_plain rfl fun K hK => ?_
    obtain ⟨inf, hi1, hi2⟩ := Option.map_eq_some_iff.1 hinfo
    simp only [Prod.mk.injEq] at hi2
    obtain ⟨hz, hs2, hby⟩ := hi2
    obtain ⟨z, hz1, hz2⟩ := Option.map_eq_some_iff.1 hz
    have hszz : 1 ≤ sz := by simpa [Nat.ble_eq] using hsz
    have hrow := H.hp.getRow i hi
    obtain ⟨v', w', hrun, hown, hgrow, _, hloc⟩ := run_append_own_at (P := P) w 0 t ty e inf z sz bytes ht hi1 hz1 hs2 hby hz2 hszz sv out.length (out.flatMap enc) hrow ⟨gb, o, none⟩ data.length cap (data.flatMap enc) hlen
      (fun j u hu => by rw [Addr.add_lit, Cel_cell hb']; exact hc j u hu) hall (by simpa [maxLen] using hmax.1) hmax.2 (Nat.zero_le _)
    have e1 : execOp a.eval ⟨some dn, .call { callee := .builtin .append, args := #[x, y], argTypes := #[t, t] }, ty, pos, af, none⟩ = Builtin.append_ #[t, t] ty (#[x, y].map a.eval) >>= fun v => pure (.value v) := rfl
    have e2 : (execOp a.eval ⟨some dn, .call { callee := .builtin .append, args := #[x, y], argTypes := #[t, t] }, ty, pos, af, none⟩).run P w = .ok (.value v') w' := by
      rw [e1]
      simp [h.ev hx, h.ev hy, hrun]
    unfold Oper.wp
    rw [e2]
    have hsame : ∀ b', b' < w.heap.size → sv.ownBlock ≠ some b' → w'.heap[b']? = w.heap[b']? := fun b' hb' hne => hgrow.block b' hb' (fun e => hne e.symm)
    have hat : ∀ c, (Own.row e sz v' (out.length + data.length) (out.flatMap enc ++ data.flatMap enc)).at = some c → (Own.row e sz sv out.length (out.flatMap enc)).at = some c ∨ w.heap.size ≤ c := by
      intro c hc'
      simp only [Own.at] at hc' ⊢
      rcases hloc with e | e
      · exact .inl (by rw [← e]; exact hc')
      · rw [e] at hc'
        exact .inr (by simp only [Option.some.injEq] at hc'; omega)
    have HH := H.turn i hi (o' := .row e sz v' (out.length + data.length) (out.flatMap enc ++ data.flatMap enc)) (H.hp.turn i hi _ hown hgrow.os hgrow.tape hgrow.output hgrow.size (fun b' hb' hne => hsame b' hb' hne) hat) (fun c hc hne => hsame c hc hne) hat
    refine hK _ _ (kk _ v' w' ?_ (h.put hd _))
    rw [List.length_append, List.flatMap_append]
    exact HH
theorem HZ.getRow {i : Nat} {α : Type} {enc : α → List Value} {sz : Nat} {out : List α} {sv : Value} (H : HZ w0 Zi Z hl w) (hi : hl[i]? = some (.row e sz sv out.length (out.flatMap enc))) : Reads w sv sz enc out := Reads.of_row (H.hp.getRow i hi) rfl
theorem HZ.backRowL {i : Nat} {α : Type} {enc : α → List Value} {sz : Nat} {out : List α} {sv : Value} (H : HZ w0 Zi Z hl w) (hi : hl[i]? = some (.row e sz sv out.length (out.flatMap enc))) : RdZ (ZL Z0 w0 w) sv sz enc out := by
  rcases (H.hp.getRow i hi).2 with ⟨hv, h0⟩ | ⟨g, cap, cur, hv, _, hg, hnc, _, _, ht⟩
  · exact .inl ⟨hv, List.eq_nil_of_length_eq_zero h0⟩
  · refine .inr ⟨g, 0, cap, cur.toList, e, (0, 0), hv, hnc, ?_, fun j u hu => ?_⟩
    · unfold ZL
      rw [if_pos (H.hp.lo i _ hi g (by rw [hv]; rfl))]
      simpa using hg
    · rw [← ht, List.getElem?_take] at hu
      rw [Nat.zero_add]
      split at hu
      · exact hu
      · cases hu
theorem ZL.none {Z : FZ} {w0 w : World} : (ZL Z w0 w).sub (ZB Z w0.heap.size w) := fun b o h => by
  unfold ZL at h
  unfold ZB
  by_cases hb : w0.heap.size ≤ b
  · rw [if_pos (.inl hb)] at h
    rw [if_pos hb]
    exact h
  · rw [if_neg (by rintro (h' | h'); exact hb h'; cases h')] at h
    rw [if_neg hb]
    exact h
theorem ZL.empty {Z : FZ} {B : Bs} {w : World} : (ZL Z0 B w).sub (ZL Z B w) := fun b o h => by
  unfold ZL at h ⊢
  split at h
  · rw [if_pos (by assumption)]; exact h
  · cases h
theorem HZ.backRow {i : Nat} {α : Type} {enc : α → List Value} {sz : Nat} {out : List α} {sv : Value} {w0 : World} (H : HZ w0 Zi Z hl w) (hi : hl[i]? = some (.row e sz sv out.length (out.flatMap enc))) : RdZ (ZB Z0 w0.heap.size w) sv sz enc out := (H.backRowL hi).sub ZL.none

/-- A call that hands back a slice, in memory of its own. -/
theorem z_callR {α : Type} {enc : α → List Value} {sz : Nat} {data : List α} {o : Oper} (h : Fr n l a) (H : HZ w0 Zi Z hl w) (hg : o.guard = none) (hd : o.dst = some dn) (hdn : Nat.blt dn n.n = true) (hv : Does P l w o (fun v w' => RdZ (ZB Z0 w.heap.size w') v sz enc data ∧ Ext w w'))
    (k : ∀ v Z' w', Z.sub Z' → Ext w w' → HZ w0 Zi Z' hl w' → RdZ Z' v sz enc data → ∀ a', Fr n ((dn, v) :: l) a' → wpList P ops Q rest a' w') : wpList P ops Q (o :: rest) a w :=
  st2 h hg hd hdn hv (by rintro v w' ⟨hr, X⟩; exact k v _ w' (ZB.of H.zin X) X (H.adopt X) (hr.sub ZB.empty))
end

section
variable {P : Program} {Q : Exit → Act → World → Prop} {n : Nm} {l : List (Nat × Value)} {a : Act} {w : World}
theorem c_flow {id : Nat} {ol : List Oper} {y : Code} (h : Fr n l a) (hm : P.follows .mixedOrders = true) (hB : flowB ol.toArray ol.length = true)
    (H : wpFlow P ol.toArray w n (fun L A => ∀ a' w', Ext w w' → FrR n L a' w' → Fresh w L A a' w' → y.wp P Q a' w') (eqs l) [] ol) : (Code.seq (.region id ol.toArray true) y).wp P Q a w :=
  wp_seq (wp_flow h hm hB H)
theorem c_lflow {id : Nat} {ol : List Oper} (h : Fr n l a) (hm : P.follows .mixedOrders = true) (hB : flowB ol.toArray ol.length = true)
    (H : wpFlow P ol.toArray w n (fun L A => ∀ a' w', Ext w w' → FrR n L a' w' → Fresh w L A a' w' → Q .normal a' w') (eqs l) [] ol) : (Code.region id ol.toArray true).wp P Q a w :=
  wp_flow h hm hB H
theorem c_flowT {id : Nat} {ol : List Oper} {y : Code} (m : Nat) (h : Fr n l a) (hm : P.follows .mixedOrders = true) (hB : flowTB ol.toArray m = true)
    (H : ∀ K : Act → World → Prop, (∀ a w, y.wp P Q a w → K a w) → wpFlow P ol.toArray w n (fun L A => ∀ a' w', Ext w w' → FrR n L a' w' → Fresh w L A a' w' → wpList P ol.toArray (Exit.then K Q) (ol.drop m) a' w') (eqs l) [] (ol.take m)) : (Code.seq (.region id ol.toArray true) y).wp P Q a w :=
  wp_seq_k fun K hK => wp_flowT m h hm hB (H K hK)
theorem c_lflowT {id : Nat} {ol : List Oper} (m : Nat) (h : Fr n l a) (hm : P.follows .mixedOrders = true) (hB : flowTB ol.toArray m = true)
    (H : wpFlow P ol.toArray w n (fun L A => ∀ a' w', Ext w w' → FrR n L a' w' → Fresh w L A a' w' → wpList P ol.toArray Q (ol.drop m) a' w') (eqs l) [] (ol.take m)) : (Code.region id ol.toArray true).wp P Q a w :=
  wp_flowT m h hm hB H
end

/-! ### steps in a region that draws its order -/
section
variable {P : Program} {ops : Array Oper} {w1 : World} {n : Nm} {d : Nat} {F : List (Nat × RL) → List Nat → Prop} {L : List (Nat × RL)} {A : List Nat} {rest : List Oper} {o : Oper} {V : Value}

/-- The slots of which the value is known. -/
def pickE (L : List (Nat × RL)) : List Nat → List (Nat × Value)
  | [] => []
  | s :: S => match lookL L s with
    | some (.eq v) => (s, v) :: pickE L S
    | _ => pickE L S
def subB (S T : List Nat) : Bool := S.all fun s => T.any (Nat.beq s)
theorem subB_mem {S T : List Nat} (h : subB S T = true) : ∀ s ∈ S, s ∈ T := fun s hs => by
  obtain ⟨t, ht, hb⟩ := List.any_eq_true.1 (List.all_eq_true.1 h s hs)
  rwa [Nat.eq_of_beq_eq_true hb]
theorem look_cons {l : List (Nat × Value)} {s i : Nat} {v V : Value} (h : look ((s, v) :: l) i = some V) : (s = i ∧ v = V) ∨ look l i = some V := by
  simp only [look] at h
  cases hb : Nat.beq s i with
  | true =>
    rw [hb] at h
    exact .inl ⟨Nat.eq_of_beq_eq_true hb, by simpa using h⟩
  | false => rw [hb] at h; exact .inr h
theorem Fr.add {l : List (Nat × Value)} {a : Act} (h : Fr n l a) {s : Nat} {v : Value} (hv : a.tmps.getD s undef = v) : Fr n ((s, v) :: l) a :=
  ⟨h.size, h.defers, fun i V e => by
    rcases look_cons e with ⟨rfl, rfl⟩ | e
    · exact hv
    · exact h.has i V e⟩
theorem fr0 {a : Act} (hs : a.tmps.size = n.n) (hd : a.defers = n.ds) : Fr n [] a := ⟨hs, hd, fun i v e => by cases e⟩
theorem pickE_fr {a : Act} {w : World} (hs : a.tmps.size = n.n) (hd : a.defers = n.ds) : ∀ (S : List Nat), (∀ s ∈ S, ∀ r, lookL L s = some r → r.holds w (a.tmps.getD s undef)) → Fr n (pickE L S) a
  | [], _ => fr0 hs hd
  | s :: S, h => by
    have ih := pickE_fr hs hd S fun t ht => h t (by simp [ht])
    unfold pickE
    cases hl : lookL L s with
    | none => exact ih
    | some r =>
      cases r with
      | eq v => exact ih.add (h s (by simp) _ hl)
      | rel R => exact ih
      | ivl R => exact ih
def pickQ (L : List (Nat × RL)) (G : List (Nat × Value) → Prop) (w : World) : List Nat → List (Nat × Value) → Prop
  | [], acc => G acc
  | s :: S, acc => match lookL L s with
    | some (.eq v) => pickQ L G w S ((s, v) :: acc)
    | some (.rel R) => ∀ v, R w v → pickQ L G w S ((s, v) :: acc)
    | some (.ivl R) => ∀ v, (∃ lo hi, R lo hi w v) → pickQ L G w S ((s, v) :: acc)
    | none => pickQ L G w S acc
theorem pickQ_fr {a : Act} {w : World} {G : List (Nat × Value) → Prop} : ∀ (S : List Nat) (acc : List (Nat × Value)), (∀ s ∈ S, ∀ r, lookL L s = some r → r.holds w (a.tmps.getD s undef)) → Fr n acc a → pickQ L G w S acc → ∃ l, Fr n l a ∧ G l
  | [], acc, _, hf, hq => ⟨acc, hf, hq⟩
  | s :: S, acc, h, hf, hq => by
    have h' : ∀ t ∈ S, ∀ r, lookL L t = some r → r.holds w (a.tmps.getD t undef) := fun t ht => h t (by simp [ht])
    unfold pickQ at hq
    cases hl : lookL L s with
    | none => rw [hl] at hq; exact pickQ_fr S acc h' hf hq
    | some r =>
      rw [hl] at hq
      cases r with
      | eq v => exact pickQ_fr S _ h' (hf.add (h s (by simp) _ hl)) hq
      | rel R => exact pickQ_fr S _ h' (hf.add rfl) (hq _ (h s (by simp) _ hl))
      | ivl R => exact pickQ_fr S _ h' (hf.add rfl) (hq _ (h s (by simp) _ hl))

/-- What an operation does in such a region. -/
def DoesF (P : Program) (l : List (Nat × Value)) (w : World) (o : Oper) (fr : Bool) (r : RL) : Prop :=
  Does P l w o (fun v w' => Ext w w' ∧ r.at w.heap.size w'.heap.size w' v ∧ (fr = true → ∀ b, ownB v = some b → w.heap.size ≤ b ∧ b < w'.heap.size))
theorem Does.mono {l : List (Nat × Value)} {w : World} {R R' : Value → World → Prop} (h : Does P l w o R) (hr : ∀ v w', R v w' → R' v w') : Does P l w o R' := fun n a hf K Q hk => h n a hf K Q fun v w' hv => hk v w' (hr v w' hv)
theorem Val.doesF {l : List (Nat × Value)} {w : World} (h : Val P l w o V) : DoesF P l w o false (.eq V) := h.does.mono (by rintro v w' ⟨rfl, rfl⟩; exact ⟨Ext.refl _, rfl, fun h => by cases h⟩)
theorem Val.doesR {l : List (Nat × Value)} {w : World} {R : World → Value → Prop} (h : Val P l w o V) (hR : R w V) : DoesF P l w o false (.rel R) := h.does.mono (by rintro v w' ⟨rfl, rfl⟩; exact ⟨Ext.refl _, hR, fun h => by cases h⟩)
theorem Does.doesF {l : List (Nat × Value)} {w : World} (h : Does P l w o (fun v w' => v = V ∧ Ext w w')) : DoesF P l w o false (.eq V) := h.mono (by rintro v w' ⟨rfl, X⟩; exact ⟨X, rfl, fun h => by cases h⟩)
theorem Does.doesR {l : List (Nat × Value)} {w : World} {R : World → Value → Prop} {R' : Value → World → Prop} (h : Does P l w o R') (hR : ∀ v w', R' v w' → R w' v ∧ Ext w w') : DoesF P l w o false (.rel R) := h.mono (fun v w' hr => ⟨(hR v w' hr).2, (hR v w' hr).1, fun h => by cases h⟩)

theorem Does.doesI {l : List (Nat × Value)} {w : World} {R : Nat → Nat → World → Value → Prop} {R' : Value → World → Prop} (h : Does P l w o R') (hR : ∀ v w', R' v w' → R w.heap.size w'.heap.size w' v ∧ Ext w w') : DoesF P l w o false (.ivl R) := h.mono (fun v w' hr => ⟨(hR v w' hr).2, (hR v w' hr).1, fun h => by cases h⟩)
theorem fn_ (h : F L A) : wpFlow P ops w1 n F L A [] := h
theorem f_op (S : List Nat) (hS : subB S (o.looksAt ops) = true) (hg : o.guard = none) (hd : o.dst = some d) (hdn : Nat.blt d n.n = true) (fr : Bool) (r : RL) (hst : r.stab) (hv : ∀ w, Ext w1 w → pickQ L (fun l => DoesF P l w o fr r) w S [])
    (k : wpFlow P ops w1 n F ((d, r) :: L) (if fr = true then d :: A else A) rest) : wpFlow P ops w1 n F L A (o :: rest) := by
  refine ⟨d, r, fr, hd, by simpa [Nat.blt_eq] using hdn, hst, fun a w X hsz hdf hF => .inr ⟨wanted_none hg, fun K Q hk => ?_⟩, k⟩
  obtain ⟨l, hf, hq⟩ := pickQ_fr (n := n) S [] (fun s hs => hF s (subB_mem hS s hs)) (fr0 hsz hdf) (hv w X)
  exact hq n a hf K Q fun v w' hr => hk v w' hr.1 hr.2.1 hr.2.2
theorem f1 (S : List Nat) (hS : subB S (o.looksAt ops) = true) (hg : o.guard = none) (hd : o.dst = some d) (hdn : Nat.blt d n.n = true) (hv : ∀ w, Ext w1 w → Val P (pickE L S) w o V)
    (k : wpFlow P ops w1 n F ((d, .eq V) :: L) A rest) : wpFlow P ops w1 n F L A (o :: rest) := by
  refine ⟨d, .eq V, false, hd, by simpa [Nat.blt_eq] using hdn, trivial, fun a w X hsz hdf hF => .inr ⟨wanted_none hg, fun K Q hk => ?_⟩, by simpa using k⟩
  exact (hv w X).doesF n a (pickE_fr hsz hdf S (fun s hs => hF s (subB_mem hS s hs))) K Q fun v w' hr => hk v w' hr.1 hr.2.1 hr.2.2
theorem f2 (S : List Nat) (hS : subB S (o.looksAt ops) = true) (hg : o.guard = none) (hd : o.dst = some d) (hdn : Nat.blt d n.n = true) (hv : ∀ w, Ext w1 w → Does P (pickE L S) w o (fun v w' => v = V ∧ Ext w w'))
    (k : wpFlow P ops w1 n F ((d, .eq V) :: L) A rest) : wpFlow P ops w1 n F L A (o :: rest) := by
  refine ⟨d, .eq V, false, hd, by simpa [Nat.blt_eq] using hdn, trivial, fun a w X hsz hdf hF => .inr ⟨wanted_none hg, fun K Q hk => ?_⟩, by simpa using k⟩
  exact (hv w X).doesF n a (pickE_fr hsz hdf S (fun s hs => hF s (subB_mem hS s hs))) K Q fun v w' hr => hk v w' hr.1 hr.2.1 hr.2.2
theorem f_g (S : List Nat) {j g : Nat} {b c : Bool} (hS : subB S (o.looksAt ops) = true) (hg : o.guard = some (j, b)) (hj : (ops[j]?).bind (·.dst) = some g) (hgv : Wants (pickE L S) g b c) (hd : o.dst = some d) (hdn : Nat.blt d n.n = true)
    (hv : c = true → ∀ w, Ext w1 w → Val P (pickE L S) w o V) (k : wpFlow P ops w1 n F ((d, .eq (gw c V)) :: L) A rest) : wpFlow P ops w1 n F L A (o :: rest) := by
  refine ⟨d, .eq (gw c V), false, hd, by simpa [Nat.blt_eq] using hdn, trivial, fun a w X hsz hdf hF => ?_, by simpa using k⟩
  have hf := pickE_fr (n := n) hsz hdf S (fun s hs => hF s (subB_mem hS s hs))
  obtain ⟨U, hU, hc⟩ := hgv
  have hw := wanted_val hf hg hj hU
  rw [hc] at hw
  cases c with
  | false => exact .inl ⟨hw, rfl⟩
  | true => exact .inr ⟨hw, fun K Q hk => (hv rfl w X).doesF n a hf K Q fun v w' hr => hk v w' hr.1 hr.2.1 hr.2.2⟩
theorem f_gd (S : List Nat) {j g : Nat} {b c : Bool} (hS : subB S (o.looksAt ops) = true) (hg : o.guard = some (j, b)) (hj : (ops[j]?).bind (·.dst) = some g) (hgv : Wants (pickE L S) g b c) (hd : o.dst = some d) (hdn : Nat.blt d n.n = true)
    (hv : c = true → ∀ w, Ext w1 w → Does P (pickE L S) w o (fun v w' => v = V ∧ Ext w w')) (k : wpFlow P ops w1 n F ((d, .eq (gw c V)) :: L) A rest) : wpFlow P ops w1 n F L A (o :: rest) := by
  refine ⟨d, .eq (gw c V), false, hd, by simpa [Nat.blt_eq] using hdn, trivial, fun a w X hsz hdf hF => ?_, by simpa using k⟩
  have hf := pickE_fr (n := n) hsz hdf S (fun s hs => hF s (subB_mem hS s hs))
  obtain ⟨U, hU, hc⟩ := hgv
  have hw := wanted_val hf hg hj hU
  rw [hc] at hw
  cases c with
  | false => exact .inl ⟨hw, rfl⟩
  | true => exact .inr ⟨hw, fun K Q hk => (hv rfl w X).doesF n a hf K Q fun v w' hr => hk v w' hr.1 hr.2.1 hr.2.2⟩
/-- Behind a guard, with slots of which only something is known: one value. -/
theorem f_gE (S : List Nat) {j g : Nat} {b c : Bool} (hS : subB S (o.looksAt ops) = true) (hg : o.guard = some (j, b)) (hj : (ops[j]?).bind (·.dst) = some g) (hd : o.dst = some d) (hdn : Nat.blt d n.n = true)
    (hv : ∀ w, Ext w1 w → pickQ L (fun l => Wants l g b c ∧ (c = true → DoesF P l w o false (.eq V))) w S []) (k : wpFlow P ops w1 n F ((d, .eq (gw c V)) :: L) A rest) : wpFlow P ops w1 n F L A (o :: rest) := by
  refine ⟨d, .eq (gw c V), false, hd, by simpa [Nat.blt_eq] using hdn, trivial, fun a w X hsz hdf hF => ?_, by simpa using k⟩
  obtain ⟨l, hf, hgv, hq⟩ := pickQ_fr (n := n) S [] (fun s hs => hF s (subB_mem hS s hs)) (fr0 hsz hdf) (hv w X)
  obtain ⟨U, hU, hc⟩ := hgv
  have hw := wanted_val hf hg hj hU
  rw [hc] at hw
  cases c with
  | false => exact .inl ⟨hw, rfl⟩
  | true => exact .inr ⟨hw, fun K Q hk => hq rfl n a hf K Q fun v w' hr => hk v w' hr.1 hr.2.1 hr.2.2⟩
/-- The same: something is known of what comes. -/
theorem f_gR (S : List Nat) {j g : Nat} {b c : Bool} {R : World → Value → Prop} (hS : subB S (o.looksAt ops) = true) (hg : o.guard = some (j, b)) (hj : (ops[j]?).bind (·.dst) = some g) (hd : o.dst = some d) (hdn : Nat.blt d n.n = true) (hst : Stab R)
    (hv : ∀ w, Ext w1 w → pickQ L (fun l => Wants l g b c ∧ (c = true → DoesF P l w o false (.rel R))) w S []) (k : wpFlow P ops w1 n F ((d, .rel (fun w v => c = true → R w v)) :: L) A rest) : wpFlow P ops w1 n F L A (o :: rest) := by
  refine ⟨d, .rel (fun w v => c = true → R w v), false, hd, by simpa [Nat.blt_eq] using hdn, (fun w w' v X h hc => hst w w' v X (h hc)), fun a w X hsz hdf hF => ?_, by simpa using k⟩
  obtain ⟨l, hf, hgv, hq⟩ := pickQ_fr (n := n) S [] (fun s hs => hF s (subB_mem hS s hs)) (fr0 hsz hdf) (hv w X)
  obtain ⟨U, hU, hc⟩ := hgv
  have hw := wanted_val hf hg hj hU
  rw [hc] at hw
  cases c with
  | false => exact .inl ⟨hw, fun h => by cases h⟩
  | true => exact .inr ⟨hw, fun K Q hk => hq rfl n a hf K Q fun v w' hr => hk v w' hr.1 (fun _ => hr.2.1) hr.2.2⟩

/-- Behind the region: the slots that are wanted further. -/
def outX (L : List (Nat × RL)) (w : World) (G : List (Nat × Value) → Prop) : List Nat → List (Nat × Value) → Prop
  | [], acc => G acc
  | s :: S, acc => match lookL L s with
    | some (.eq v) => outX L w G S ((s, v) :: acc)
    | some (.rel R) => ∃ v, R w v ∧ outX L w G S ((s, v) :: acc)
    | some (.ivl R) => ∃ v, (∃ lo hi, R lo hi w v) ∧ outX L w G S ((s, v) :: acc)
    | none => outX L w G S acc
theorem outX_fr {a : Act} {w : World} (h : FrR n L a w) : ∀ (S : List Nat) (acc : List (Nat × Value)), Fr n acc a → outX L w (fun l => Fr n l a) S acc
  | [], acc, hf => hf
  | s :: S, acc, hf => by
    unfold outX
    cases hl : lookL L s with
    | none => exact outX_fr h S acc hf
    | some r =>
      cases r with
      | eq v => exact outX_fr h S _ (hf.add (h.has s _ hl))
      | rel R => exact ⟨_, h.has s _ hl, outX_fr h S _ (hf.add rfl)⟩
      | ivl R => exact ⟨_, h.has s _ hl, outX_fr h S _ (hf.add rfl)⟩
theorem FrR.out {a : Act} {w : World} (h : FrR n L a w) (S : List Nat) : outX L w (fun l => Fr n l a) S [] := outX_fr h S [] (fr0 h.size h.defers)
theorem Fresh.lo' {A : List Nat} {a : Act} {w1 w : World} {l : List (Nat × Value)} (hA : Fresh w1 L A a w) (h : Fr n l a) {s b : Nat} {off : Nat} (hs : A.any (Nat.beq s) = true) (hl : look l s = some (.pointer (some ⟨b, off, none⟩))) : w1.heap.size ≤ b := by
  obtain ⟨t, ht, hb⟩ := List.any_eq_true.1 hs
  obtain rfl := Nat.eq_of_beq_eq_true hb
  exact (hA.lo s ht b (by rw [h.has s _ hl]; rfl)).1
theorem Fresh.ne' {A : List Nat} {a : Act} {w1 w : World} {l : List (Nat × Value)} (hA : Fresh w1 L A a w) (h : Fr n l a) {s t b b' off off' : Nat} (hs : A.any (Nat.beq s) = true) (ht : A.any (Nat.beq t) = true) (hst : Nat.beq s t = false) (hl : look l s = some (.pointer (some ⟨b, off, none⟩))) (hl' : look l t = some (.pointer (some ⟨b', off', none⟩))) : b ≠ b' := by
  obtain ⟨s', hs', hb⟩ := List.any_eq_true.1 hs
  obtain rfl := Nat.eq_of_beq_eq_true hb
  obtain ⟨t', ht', hb'⟩ := List.any_eq_true.1 ht
  obtain rfl := Nat.eq_of_beq_eq_true hb'
  intro e
  subst e
  refine hA.ne s hs' t ht' (fun e => by subst e; rw [Nat.beq_refl] at hst; cases hst) b (by rw [h.has s _ hl]; rfl) (by rw [h.has t _ hl']; rfl)

variable {dn : Nat} {t ty e : TypeId} {pos : String} {af : Array Edge} {x y : Operand} {α : Type} {enc : α → List Value} {sz : Nat} {data : List α} {k : IntKind} {p : Int}
/-- A new variable. -/
theorem f_alloc {z : Value} (hz : ∀ w, (zeroValue e).run P w = .ok z w) (zs : List Value) (hzs : z.cells.toList = zs) (hdn : Nat.blt dn n.n = true)
    (k : wpFlow P ops w1 n F ((dn, .rel (fun w v => ∃ b, v = .pointer (some ⟨b, 0, none⟩) ∧ w.heap[b]? = some (Cel zs e))) :: L) (dn :: A) rest) : wpFlow P ops w1 n F L A (⟨some dn, .alloc e, ty, pos, af, none⟩ :: rest) := by
  refine f_op [] rfl rfl rfl hdn true (.rel (fun w v => ∃ b, v = .pointer (some ⟨b, 0, none⟩) ∧ w.heap[b]? = some (Cel zs e))) (fun w w' v X h => ?_) (fun w X => ?_) (by simpa using k)
  · obtain ⟨b, h1, h2⟩ := h
    exact ⟨b, h1, X.block h2⟩
  · refine (d_alloc (P := P) (l := []) (w := w) hz zs hzs).mono ?_
    rintro v w' ⟨rfl, rfl⟩
    refine ⟨Ext.alloc _ _, ⟨_, rfl, heap_alloc_new w _⟩, fun _ b hb => ?_⟩
    simp only [ownB, Option.some.injEq] at hb
    subst hb
    refine ⟨Nat.le_refl _, (Array.getElem?_eq_some_iff.1 (heap_alloc_new w (Cel zs e))).1⟩
theorem at_stab {da : α} {j : Nat} : Stab (fun w v => At w v enc da j) := fun w w' v X h => h.ext X
theorem rd_stab {Z : FZ} {B : Nat} : Stab (fun w v => RdZ (ZB Z B w) v sz enc data) := fun w w' v X h => h.sub (ZB.grow X)
/-- The address of an element. -/
theorem d_idx {l : List (Nat × Value)} {w : World} {gd : Option (Nat × Bool)} (ht : P.underlying t = some (.slice e)) (hs : ∀ w, (sizeOf e).run P w = .ok sz w) (hx : ev l x = some V) (hy : ev l y = some (.int k p))
    (hr : Reads w V sz enc data) (henc : ∀ a, (enc a).length = sz) (da : α) (hp : 0 ≤ p) (hda : data[p.toNat]? = some da) :
    DoesF P l w ⟨some dn, .indexAddr t x y, ty, pos, af, gd⟩ false (.rel (fun w v => At w v enc da 0)) := by
  obtain ⟨V', h1, h2⟩ := idx_val (P := P) (l := l) (dn := dn) (ty := ty) (pos := pos) (af := af) (gd := gd) true ht hs (fun _ => hx) (fun _ => hy) hr henc da (fun _ => hp) (fun _ => hda)
  exact (h1 rfl w).doesR (h2 rfl)
theorem d_field {l : List (Nat × Value)} {w : World} {gd : Option (Nat × Bool)} {da : α} {j : Nat} {fs : Array Field} {f : Field} {i kz j' : Nat} (hx : ev l x = some V) (hA : At w V enc da j) (hu : P.underlying t = some (.struct fs)) (hf : fs.toList[i]? = some f)
    (hs : ∀ w, (sizeOf f.type).run P w = .ok kz w) (hk : Nat.ble 1 kz = true) (hj : j + f.offset = j') :
    DoesF P l w ⟨some dn, .fieldAddr t x i, ty, pos, af, gd⟩ false (.rel (fun w v => At w v enc da j')) := by
  obtain ⟨V', h1, h2⟩ := field_val (P := P) (l := l) (dn := dn) (ty := ty) (pos := pos) (af := af) (gd := gd) true (fun _ => hx) (fun _ => hA) hu hf hs hk hj
  exact (h1 rfl w).doesR (h2 rfl)
/-- '[]T{x, ..}'. -/
theorem d_sliceR {Z : FZ} {l : List (Nat × Value)} {w : World} {gd : Option (Nat × Bool)} {len : Nat} (data : List α) (hZ : Z.inn w1) (X : Ext w1 w) (ht : P.underlying t = some (.slice e)) (hs : ∀ w, (sizeOf e).run P w = .ok sz w) {z : Value} (hz : ∀ w, (zeroValue e).run P w = .ok z w) {ps : Array (Nat × Operand)} (hsz : (Nat.ble 1 (len * sz) && Nat.ble (len * sz) 1000) = true)
    {zl : List Value} (hzl : (Array.range (len * sz)).map (fun i => z.cells[i % z.cells.size]!) = zl.toArray) {pl : List (Nat × Nat)} (hp : ∀ i p, pl.toArray[i]? = some p → p = (i * sz, sz))
    (us : List Value) (cells : List Value) (hev : evs l (ps.toList.map (·.2)) = some us) (hf : fillL pl zl ((ps.toList.map (·.1)).zip us) = some cells) (hlen : data.length = len) (hdt : data.flatMap enc = cells) :
    DoesF P l w ⟨some dn, .buildSlice t len ps, ty, pos, af, gd⟩ false (.rel (fun w v => RdZ (ZB Z w1.heap.size w) v sz enc data)) := by
  refine (d_slice (w := w) ht hs hz hsz hzl hp us cells hev hf).doesR ?_
  rintro v w' ⟨rfl, rfl⟩
  refine ⟨.inr ⟨w.heap.size, 0, len, cells, e, (0, 0), by rw [hlen], by omega, ?_, fun j u hu => by rw [Nat.zero_add, ← hdt]; exact hu⟩, Ext.alloc _ _⟩
  unfold ZB
  rw [if_pos X.size]
  exact heap_alloc_new w _
end
end Go.Stp
