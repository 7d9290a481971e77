/- The step library, third part: memory: the blocks that the call itself has laid. -/
import Derived.Test.YtlpfcclecmalhaaDoorStpB
set_option linter.unusedSimpArgs false
set_option linter.unusedVariables false
set_option linter.unusedSectionVars false
namespace Go.Stp
open Go.RowKit

/-- w' is w with blocks added behind: nothing that was there has turned. -/
def Ext (w w' : World) : Prop := Below w.heap.size w w'
theorem Ext.refl (w : World) : Ext w w := Below.refl _ _
theorem Ext.trans {a b c : World} (h : Ext a b) (k : Ext b c) : Ext a c := Below.trans h (Below.mono k h.size)
theorem Ext.of_below {B : Nat} {w w' : World} (h : Below B w w') (hB : w.heap.size ≤ B) : Ext w w' := h.mono hB
theorem Ext.block {w w' : World} (h : Ext w w') {b : Nat} {o : Obj} (hb : w.heap[b]? = some o) : w'.heap[b]? = some o := by
  rw [Below.block h b (Array.getElem?_eq_some_iff.1 hb).1]
  exact hb
theorem Ext.alloc (w : World) (o : Obj) : Ext w (w.alloc o) := (Below.refl _ _).alloc (Nat.le_refl _) o
theorem Ext.drew (w : World) : Ext w w.drew := (Below.refl _ _).drew
theorem Ext.size {w w' : World} (h : Ext w w') : w.heap.size ≤ w'.heap.size := Below.size h

/-- A block of cells. -/
abbrev Cel (cs : List Value) (e : TypeId) : Obj := .cells cs.toArray e (0, 0)

/-- What the call owns: a block as it stands; a slice value with the row behind it. -/
inductive Own where
  | blk (b : Nat) (o : Obj)
  | row (e : TypeId) (sz : Nat) (v : Value) (n : Nat) (xs : List Value)

def Own.at (o : Own) : Option Nat := match o with
  | .blk b _ => some b
  | .row _ _ v _ _ => v.ownBlock
def Own.holds (o : Own) (w : World) : Prop := match o with
  | .blk b ob => w.heap[b]? = some ob
  | .row e sz v n xs => w.ownsRow 0 e sz v n xs

theorem Own.holds_lt {o : Own} {w : World} (h : o.holds w) : ∀ b, o.at = some b → b < w.heap.size := by
  intro b hb
  cases o with
  | blk b' ob =>
    simp only [Own.at, Option.some.injEq] at hb
    subst hb
    exact (Array.getElem?_eq_some_iff.1 h).1
  | row e sz v n xs => exact (World.ownsRow.lt h b hb).2

theorem Own.holds_same {o : Own} {w w' : World} (h : o.holds w) (hs : ∀ b, o.at = some b → w'.heap[b]? = w.heap[b]?) : o.holds w' := by
  cases o with
  | blk b ob => exact (hs b rfl).trans h
  | row e sz v n xs =>
    refine ⟨h.1, ?_⟩
    rcases h.2 with hn | ⟨g, cap, cur, rfl, hb, hg, rest⟩
    · exact .inl hn
    · exact .inr ⟨g, cap, cur, rfl, hb, by rw [hs g rfl]; exact hg, rest⟩

/-- Where a call began: the world, and the blocks that it was lent. -/
structure Bs where
  w : World
  L : List Nat
abbrev Bs.heap (B : Bs) : Array Obj := B.w.heap
instance : Coe World Bs := ⟨fun w => ⟨w, []⟩⟩
/-- w' is that world but for what was lent, with blocks added behind. -/
structure ExtB (B : Bs) (w' : World) : Prop where
  os : w'.os = B.w.os
  tape : w'.tape = B.w.tape
  output : w'.output = B.w.output
  size : B.w.heap.size ≤ w'.heap.size
  block : ∀ k, k < B.w.heap.size → k ∉ B.L → w'.heap[k]? = B.w.heap[k]?
theorem ExtB.ext {B : Bs} {w w' : World} (h : ExtB B w) (X : Ext w w') : ExtB B w' :=
  ⟨X.os.trans h.os, X.tape.trans h.tape, X.output.trans h.output, Nat.le_trans h.size X.size, fun k hk hn => (Below.block X k (Nat.lt_of_lt_of_le hk h.size)).trans (h.block k hk hn)⟩
theorem ExtB.none {w w' : World} (h : ExtB w w') : Ext w w' := ⟨h.os, h.tape, h.output, h.size, fun k hk => h.block k hk (by simp)⟩
theorem ExtB.of {B : Bs} {w' : World} (X : Ext B.w w') : ExtB B w' := ⟨X.os, X.tape, X.output, Ext.size X, fun k hk _ => Below.block X k hk⟩
theorem ExtB.refl (B : Bs) : ExtB B B.w := .of (Ext.refl _)

/-- The call began in w0; it owns these; nothing that was there when it began has turned, but what it was lent. -/
structure Hp (w0 : Bs) (hl : List Own) (w : World) : Prop where
  below : ExtB w0 w
  own : ∀ (i : Nat) (o : Own), hl[i]? = some o → o.holds w
  lo : ∀ (i : Nat) (o : Own), hl[i]? = some o → ∀ b, o.at = some b → w0.heap.size ≤ b ∨ b ∈ w0.L
  apart : ∀ (i j : Nat) (o o' : Own), hl[i]? = some o → hl[j]? = some o' → i ≠ j → ∀ b, o.at = some b → o'.at ≠ some b

theorem Hp.startL (w0 : Bs) : Hp w0 [] w0.w := ⟨ExtB.refl _, fun i o h => by simp at h, fun i o h => by simp at h, fun i j o o' h => by simp at h⟩
theorem Hp.start (w : World) : Hp w [] w := Hp.startL w
theorem Hp.outB {w0 : Bs} {w : World} {hl : List Own} (H : Hp w0 hl w) : ExtB w0 w := H.below
theorem Hp.out {w0 w : World} {hl : List Own} (H : Hp w0 hl w) : Ext w0 w := H.below.none
theorem Hp.ext {w0 : Bs} {w w' : World} {hl : List Own} (H : Hp w0 hl w) (h : Ext w w') : Hp w0 hl w' :=
  ⟨H.below.ext h, fun i o e => Own.holds_same (H.own i o e) fun b hb => Below.block h b (Own.holds_lt (H.own i o e) b hb), H.lo, H.apart⟩
theorem Hp.get {w0 : Bs} {w : World} {hl : List Own} (H : Hp w0 hl w) (i : Nat) {b : Nat} {o : Obj} (h : hl[i]? = some (.blk b o)) : w.heap[b]? = some o := H.own i _ h
theorem Hp.getRow {w0 : Bs} {w : World} {hl : List Own} (H : Hp w0 hl w) (i : Nat) {e : TypeId} {sz n : Nat} {v : Value} {xs : List Value} (h : hl[i]? = some (.row e sz v n xs)) : w.ownsRow 0 e sz v n xs := H.own i _ h

/-- One thing more. -/
theorem Hp.push {w0 : Bs} {w w' : World} {hl : List Own} (H : Hp w0 hl w) (h : Ext w w') (o : Own) (ho : o.holds w') (hn : ∀ b, o.at = some b → w.heap.size ≤ b) : Hp w0 (hl ++ [o]) w' := by
  have H' := H.ext h
  have key : ∀ (i : Nat) (x : Own), (hl ++ [o])[i]? = some x → (hl[i]? = some x ∧ i < hl.length) ∨ (i = hl.length ∧ x = o) := by
    intro i x e
    rw [List.getElem?_append] at e
    split at e
    · exact .inl ⟨e, by assumption⟩
    · rename_i hlt
      have : i - hl.length = 0 := by
        have := (List.getElem?_eq_some_iff.1 e).1
        simp at this
        omega
      rw [this] at e
      simp at e
      exact .inr ⟨by omega, e.symm⟩
  refine ⟨H'.below, fun i x e => ?_, fun i x e b hb => ?_, fun i j x y hx hy hij b hb => ?_⟩
  · rcases key i x e with ⟨e, _⟩ | ⟨_, rfl⟩
    · exact H'.own i x e
    · exact ho
  · rcases key i x e with ⟨e, _⟩ | ⟨_, rfl⟩
    · exact H'.lo i x e b hb
    · have := hn b hb
      have := H.below.size
      exact .inl (by show w0.w.heap.size ≤ b; omega)
  · rcases key i x hx with ⟨ex, _⟩ | ⟨ei, rfl⟩ <;> rcases key j y hy with ⟨ey, _⟩ | ⟨ej, rfl⟩
    · exact H'.apart i j x y ex ey hij b hb
    · intro e
      have h1 := Own.holds_lt (H.own i x ex) b hb
      have h2 := hn b e
      omega
    · intro e
      have h1 := Own.holds_lt (H.own j y ey) b e
      have h2 := hn b hb
      omega
    · omega

/-- Number i is turned; whatever else lies elsewhere is as it was. -/
theorem Hp.turn {w0 : Bs} {w w' : World} {hl : List Own} (H : Hp w0 hl w) (i : Nat) {o : Own} (hi : hl[i]? = some o) (o' : Own) (ho : o'.holds w')
    (hos : w'.os = w.os) (htape : w'.tape = w.tape) (hout : w'.output = w.output) (hsz : w.heap.size ≤ w'.heap.size)
    (hsame : ∀ b, b < w.heap.size → o.at ≠ some b → w'.heap[b]? = w.heap[b]?) (hat : ∀ b, o'.at = some b → o.at = some b ∨ w.heap.size ≤ b) : Hp w0 (hl.set i o') w' := by
  have hil : i < hl.length := (List.getElem?_eq_some_iff.1 hi).1
  have key : ∀ (j : Nat) (x : Own), (hl.set i o')[j]? = some x → (j ≠ i ∧ hl[j]? = some x) ∨ (j = i ∧ x = o') := by
    intro j x e
    by_cases h : j = i
    · subst h
      rw [List.getElem?_set_self hil] at e
      exact .inr ⟨rfl, (Option.some.inj e).symm⟩
    · rw [List.getElem?_set_ne (fun e => h e.symm)] at e
      exact .inl ⟨h, e⟩
  refine ⟨⟨hos.trans H.below.os, htape.trans H.below.tape, hout.trans H.below.output, Nat.le_trans H.below.size hsz, fun k hk hn => ?_⟩, fun j x e => ?_, fun j x e b hb => ?_, fun j m x y hx hy hjm b hb => ?_⟩
  · refine (hsame k (Nat.lt_of_lt_of_le hk H.below.size) fun e => ?_).trans (H.below.block k hk hn)
    rcases H.lo i o hi k e with h | h
    · have : w0.w.heap.size ≤ k := h
      omega
    · exact hn h
  · rcases key j x e with ⟨hne, e⟩ | ⟨_, rfl⟩
    · refine Own.holds_same (H.own j x e) fun b hb => hsame b (Own.holds_lt (H.own j x e) b hb) fun e2 => ?_
      exact H.apart j i x o e hi hne b hb e2
    · exact ho
  · rcases key j x e with ⟨hne, e⟩ | ⟨_, rfl⟩
    · exact H.lo j x e b hb
    · rcases hat b hb with h | h
      · exact H.lo i o hi b h
      · have := H.below.size
        exact .inl (by show w0.w.heap.size ≤ b; omega)
  · rcases key j x hx with ⟨hnj, ex⟩ | ⟨rfl, rfl⟩ <;> rcases key m y hy with ⟨hnm, ey⟩ | ⟨rfl, rfl⟩
    · exact H.apart j m x y ex ey hjm b hb
    · intro e
      rcases hat b e with h1 | h1
      · exact H.apart j m x o ex hi hjm b hb h1
      · have := Own.holds_lt (H.own j x ex) b hb
        omega
    · intro e
      rcases hat b hb with h1 | h1
      · exact H.apart j m o y hi ey hjm b h1 e
      · have := Own.holds_lt (H.own m y ey) b e
        omega
    · omega

/-- Some of them are forgotten. -/
theorem Hp.pick {w0 : Bs} {w : World} {hl : List Own} (H : Hp w0 hl w) (is : List Nat) (hd : is.Pairwise (· < ·)) {hl' : List Own} (h : ∀ k : Nat, hl'[k]? = (is[k]?).bind (hl[·]?)) : Hp w0 hl' w := by
  have key : ∀ (k : Nat) (x : Own), hl'[k]? = some x → ∃ i, is[k]? = some i ∧ hl[i]? = some x := by
    intro k x e
    rw [h k] at e
    cases hk : is[k]? with
    | none => rw [hk] at e; cases e
    | some i => rw [hk] at e; exact ⟨i, rfl, e⟩
  refine ⟨H.below, fun k x e => ?_, fun k x e => ?_, fun j m x y hx hy hjm b hb => ?_⟩
  · obtain ⟨i, _, e⟩ := key k x e
    exact H.own i x e
  · obtain ⟨i, _, e⟩ := key k x e
    exact H.lo i x e
  · obtain ⟨i1, h1, e1⟩ := key j x hx
    obtain ⟨i2, h2, e2⟩ := key m y hy
    refine H.apart i1 i2 x y e1 e2 (fun e => ?_) b hb
    subst e
    obtain ⟨l1, g1⟩ := List.getElem?_eq_some_iff.1 h1
    obtain ⟨l2, g2⟩ := List.getElem?_eq_some_iff.1 h2
    have hp := List.pairwise_iff_getElem.1 hd
    rcases Nat.lt_or_gt_of_ne hjm with hl | hl
    · have := hp j m l1 l2 hl
      omega
    · have := hp m j l2 l1 hl
      omega

section
variable {P : Program} {ops : Array Oper} {Q : Exit → Act → World → Prop} {rest : List Oper} {n : Nm} {dn : Nat} {l : List (Nat × Value)} {a : Act} {w : World} {w0 : Bs} {hl : List Own}
  {d : Option Nat} {x y c u v : Operand} {t t' ty : TypeId} {pos : String} {af : Array Edge} {g : Option (Nat × Bool)} {V V' : Value} {cs : List Value} {e : TypeId} {b off : Nat} {fz : Nat × Nat}

theorem Cel_cell {w : World} {b j : Nat} {cs : List Value} {e : TypeId} {fz : Nat × Nat} (hb : w.heap[b]? = some (.cells cs.toArray e fz)) : w.cell? ⟨b, j, none⟩ = cs[j]? := by
  simp [World.cell?, hb]

theorem v_load1 (hx : ev l x = some (.pointer (some ⟨b, off, none⟩))) (ha : ∀ w, (isAgg t).run P w = .ok false w) (hb : w.heap[b]? = some (.cells cs.toArray e fz)) (hc : cs[off]? = some V) :
    Val P l w ⟨d, .load t x, ty, pos, af, g⟩ V := fun n a h => by
  have e1 : execOp a.eval ⟨d, .load t x, ty, pos, af, g⟩ = Instr.loadAt t (a.eval x) >>= fun v => pure (.value v) := rfl
  rw [e1, h.ev hx]
  simp [Instr.loadAt, Instr.sureAddr, loadVar, ha, Cel_cell hb, hc]

theorem take_drop_get {cs vs : List Value} {off k : Nat} (h : (cs.drop off).take k = vs) : ∀ j u, vs[j]? = some u → cs[off + j]? = some u := by
  intro j u hu
  subst h
  rw [List.getElem?_take] at hu
  split at hu
  · simpa using hu
  · cases hu

theorem run_loadVar_agg {k : Nat} {vs : List Value} (ha : ∀ w, (isAgg t).run P w = .ok true w) (hs : ∀ w, (sizeOf t).run P w = .ok k w) (hb : w.heap[b]? = some (.cells cs.toArray e fz)) (hv : (cs.drop off).take k = vs) (hk : vs.length = k) :
    (loadVar t ⟨b, off, none⟩).run P w = .ok (.agg vs.toArray) w := by
  have hl := run_loadCells_list (P := P) (w := w) ⟨b, off, none⟩ vs (fun j u hu => by
    rw [Addr.add_lit, Cel_cell hb]
    exact take_drop_get hv j u hu)
  rw [hk] at hl
  simp [loadVar, ha, hs, hl]
theorem run_loadVar_one (ha : ∀ w, (isAgg t).run P w = .ok false w) (hb : w.heap[b]? = some (.cells cs.toArray e fz)) (hc : cs[off]? = some V) :
    (loadVar t ⟨b, off, none⟩).run P w = .ok V w := by
  simp [loadVar, ha, Cel_cell hb, hc]

theorem v_loadA {k : Nat} (vs : List Value) (hx : ev l x = some (.pointer (some ⟨b, off, none⟩))) (ha : ∀ w, (isAgg t).run P w = .ok true w) (hs : ∀ w, (sizeOf t).run P w = .ok k w) (hb : w.heap[b]? = some (.cells cs.toArray e fz))
    (hv : (cs.drop off).take k = vs) (hk : vs.length = k) : Val P l w ⟨d, .load t x, ty, pos, af, g⟩ (.agg vs.toArray) := fun n a h => by
  have e1 : execOp a.eval ⟨d, .load t x, ty, pos, af, g⟩ = Instr.loadAt t (a.eval x) >>= fun v => pure (.value v) := rfl
  rw [e1, h.ev hx]
  simp [Instr.loadAt, Instr.sureAddr, run_loadVar_agg ha hs hb hv hk]

/-- A new variable. -/
theorem st_alloc (h : Fr n l a) (H : Hp w0 hl w) {z : Value} (hz : ∀ w, (zeroValue e).run P w = .ok z w) (zs : List Value) (hzs : z.cells.toList = zs) (hd : Nat.blt dn n.n = true)
    (k : ∀ a' b w', w.heap.size ≤ b → Ext w w' → Hp w0 (hl ++ [.blk b (Cel zs e)]) w' → Fr n ((dn, .pointer (some ⟨b, 0, none⟩)) :: l) a' → wpList P ops Q rest a' w') :
    wpList P ops Q (⟨some dn, .alloc e, ty, pos, af, none⟩ :: rest) a w := by
  refine wpList_plain rfl fun K hK => ?_
  have hzc : z.cells = zs.toArray := by rw [← hzs]
  have e1 : execOp a.eval ⟨some dn, .alloc e, ty, pos, af, none⟩ = Instr.alloc e true (.tuple #[]) >>= fun v => pure (.value v) := rfl
  have e2 : (execOp a.eval ⟨some dn, .alloc e, ty, pos, af, none⟩).run P w = .ok (.value (.pointer (some ⟨w.heap.size, 0, none⟩))) (w.alloc (Cel zs e)) := by
    rw [e1]
    simp [Instr.alloc, hz, newVar, newRow, hzc]
  unfold Oper.wp
  rw [e2]
  refine hK _ _ (k _ w.heap.size _ (Nat.le_refl _) (Ext.alloc _ _) (H.push (Ext.alloc _ _) _ ?_ (fun b hb => by simp only [Own.at, Option.some.injEq] at hb; omega)) (h.put hd _))
  exact heap_alloc_new w _

theorem st_box (h : Fr n l a) (H : Hp w0 hl w) (hx : ev l x = some V) (zs : List Value) (hzs : V.cells.toList = zs) (hd : Nat.blt dn n.n = true)
    (k : ∀ a' b w', w.heap.size ≤ b → Ext w w' → Hp w0 (hl ++ [.blk b (Cel zs e)]) w' → Fr n ((dn, .pointer (some ⟨b, 0, none⟩)) :: l) a' → wpList P ops Q rest a' w') :
    wpList P ops Q (⟨some dn, .box e x, ty, pos, af, none⟩ :: rest) a w := by
  refine wpList_plain rfl fun K hK => ?_
  have hzc : V.cells = zs.toArray := by rw [← hzs]
  have e1 : execOp a.eval ⟨some dn, .box e x, ty, pos, af, none⟩ = Instr.box e (a.eval x) >>= fun v => pure (.value v) := rfl
  have e2 : (execOp a.eval ⟨some dn, .box e x, ty, pos, af, none⟩).run P w = .ok (.value (.pointer (some ⟨w.heap.size, 0, none⟩))) (w.alloc (Cel zs e)) := by
    rw [e1, h.ev hx]
    simp [Instr.box, newVar, newRow, hzc]
  unfold Oper.wp
  rw [e2]
  refine hK _ _ (k _ w.heap.size _ (Nat.le_refl _) (Ext.alloc _ _) (H.push (Ext.alloc _ _) _ ?_ (fun b hb => by simp only [Own.at, Option.some.injEq] at hb; omega)) (h.put hd _))
  exact heap_alloc_new w _

def allOne : List Value → Bool
  | [] => true
  | v :: vs => v.oneCell' && allOne vs
theorem allOne_mem : ∀ {vs : List Value}, allOne vs = true → ∀ u ∈ vs, u.oneCell' = true
  | v :: vs, h, u, hu => by
    simp only [allOne, Bool.and_eq_true] at h
    cases hu with
    | head => exact h.1
    | tail _ hu => exact allOne_mem h.2 u hu

def putAt (cs : List Value) (off : Nat) (vs : List Value) : List Value := cs.take off ++ vs ++ cs.drop (off + vs.length)

theorem storeCells_world (g o : Nat) (t : TypeId) : ∀ (vs : List Value) (i : Nat) (cur : List Value) (w : World), w.heap[g]? = some (.cells cur.toArray t (0, 0)) → o + i + vs.length ≤ cur.length → (∀ v ∈ vs, v.oneCell' = true) →
    ∃ w', (storeCells ⟨g, o, none⟩ vs i).run P w = .ok () w' ∧ w'.heap[g]? = some (.cells (putAt cur (o + i) vs).toArray t (0, 0)) ∧ w'.os = w.os ∧ w'.tape = w.tape ∧ w'.output = w.output ∧ w'.heap.size = w.heap.size ∧ ∀ b, b ≠ g → w'.heap[b]? = w.heap[b]?
  | [], i, cur, w, hg, _, _ => ⟨w, by simp [storeCells], by simpa [putAt] using hg, rfl, rfl, rfl, rfl, fun _ _ => rfl⟩
  | v :: vs, i, cur, w, hg, hle, h1 => by
    simp only [List.length_cons] at hle
    have hc : w.cell? ⟨g, o + i, none⟩ = cur[o + i]? := Cel_cell hg
    have hlt : o + i < cur.length := by omega
    have hfr : w.frozen? ⟨g, o + i, none⟩ = false := by simp [World.frozen?, hg]
    have hg' : (w.setCell ⟨g, o + i, none⟩ v).heap[g]? = some (.cells (cur.set (o + i) v).toArray t (0, 0)) := by
      simp [World.setCell, Array.getElem?_modify, hg]
    obtain ⟨w', hr, hh, r1, r2, r3, r4, r5⟩ := storeCells_world g o t vs (i + 1) (cur.set (o + i) v) (w.setCell ⟨g, o + i, none⟩ v) hg' (by simp; omega) (fun u hu => h1 u (by simp [hu]))
    refine ⟨w', ?_, ?_, r1, r2, r3, by simpa using r4, fun b hb => ?_⟩
    · simp only [storeCells, Sem.run_bind, Addr.add_lit, run_store P w ⟨g, o + i, none⟩ v .plain (h1 v (by simp)), hc, hfr, List.getElem?_eq_getElem hlt, Bool.false_eq_true, if_false, Result.andThen_ok]
      exact hr
    · rw [hh]
      have : putAt (cur.set (o + i) v) (o + (i + 1)) vs = putAt cur (o + i) (v :: vs) := by
        simp only [putAt, List.length_cons]
        have e1 : o + (i + 1) = (o + i) + 1 := by omega
        rw [e1, List.take_add_one, List.take_set_of_le (Nat.le_refl _), List.getElem?_set_self hlt]
        have e2 : o + i + 1 + vs.length = o + i + (vs.length + 1) := by omega
        rw [e2, List.drop_set_of_lt (by omega)]
        simp
      rw [this]
    · rw [r5 b hb]
      simp only [World.setCell, Array.getElem?_modify]
      rw [if_neg (fun e => hb e.symm)]

/-- A store into a block of the call's own. -/
theorem st_store (h : Fr n l a) (H : Hp w0 hl w) (i : Nat) (hx : ev l x = some (.pointer (some ⟨b, off, none⟩))) (hy : ev l y = some V) (hi : hl[i]? = some (.blk b (Cel cs e)))
    {k : Nat} (hs : ∀ w, (sizeOf t).run P w = .ok k w) (vs : List Value) (hvs : V.cells.toList = vs) (hk : vs.length = k) (h1 : allOne vs = true) (hle : off + k ≤ cs.length)
    (cs' : List Value) (hcs : putAt cs off vs = cs') {hl' : List Own} (hhl : hl.set i (.blk b (Cel cs' e)) = hl')
    (kk : ∀ w', Hp w0 hl' w' → w'.heap.size = w.heap.size → (∀ b', b' ≠ b → w'.heap[b']? = w.heap[b']?) → wpList P ops Q rest a w') :
    wpList P ops Q (⟨none, .store t x y, ty, pos, af, none⟩ :: rest) a w := by
  refine wpList_plain rfl fun K hK => ?_
  have hsz : V.cells.size = k := by rw [← hk, ← hvs]; simp
  have e1 : execOp a.eval ⟨none, .store t x y, ty, pos, af, none⟩ = Instr.storeAt t (a.eval x) (a.eval y) >>= fun _ => pure .skip := rfl
  obtain ⟨w', hr, hh, r1, r2, r3, r4, r5⟩ := storeCells_world (P := P) b off e vs 0 cs w (H.get i hi) (by omega) (allOne_mem h1)
  have e2 : (execOp a.eval ⟨none, .store t x y, ty, pos, af, none⟩).run P w = .ok .skip w' := by
    rw [e1, h.ev hx, h.ev hy]
    simp [Instr.storeAt, Instr.sureAddr, storeVar, hs, hsz, hvs, hr]
  unfold Oper.wp
  rw [e2]
  subst hhl
  rw [Nat.add_zero, hcs] at hh
  refine hK _ _ (kk w' (H.turn i hi (.blk b (Cel cs' e)) hh r1 r2 r3 (by omega) (fun b' _ hne => r5 b' (fun e => hne (by rw [e]; rfl))) (fun b' hb' => .inl (by simpa [Own.at] using hb'))) r4 r5)

theorem v_fieldAddr {fs : Array Field} {f : Field} {i k off' : Nat} (hx : ev l x = some (.pointer (some ⟨b, off, none⟩))) (hu : P.underlying t = some (.struct fs)) (hf : fs.toList[i]? = some f)
    (hs : ∀ w, (sizeOf f.type).run P w = .ok k w) (hk : Nat.ble 1 k = true) (ho : off + f.offset = off') : Val P l w ⟨d, .fieldAddr t x i, ty, pos, af, g⟩ (.pointer (some ⟨b, off', none⟩)) := fun n a h => by
  have e1 : execOp a.eval ⟨d, .fieldAddr t x i, ty, pos, af, g⟩ = Instr.fieldAt t (a.eval x) i >>= fun v => pure (.value v) := rfl
  have hf' : fs[i]? = some f := by simpa using hf
  have hk' : k ≠ 0 := by
    have := Nat.ble_eq ▸ hk
    have : 1 ≤ k := by simpa [Nat.ble_eq] using hk
    omega
  rw [e1, h.ev hx]
  simp [Instr.fieldAt, run_underlying hu, hf', Instr.sureAddr, fieldPlace, hs, hk', Addr.add_lit, ho]

/-- A part of a struct that lies in a slot. -/
theorem v_field1 {fs : Array Field} {f : Field} {i : Nat} {vs : Array Value} (hx : ev l x = some (.agg vs)) (hu : P.underlying t = some (.struct fs)) (hf : fs.toList[i]? = some f)
    (ha : ∀ w, (isAgg f.type).run P w = .ok false w) (hc : vs.toList[f.offset]? = some V) : Val P l w ⟨d, .field t x i, ty, pos, af, g⟩ V := fun n a h => by
  have e1 : execOp a.eval ⟨d, .field t x i, ty, pos, af, g⟩ = Instr.field t (a.eval x) i >>= fun v => pure (.value v) := rfl
  have hf' : fs[i]? = some f := by simpa using hf
  have hc' : vs[f.offset]? = some V := by simpa using hc
  rw [e1, h.ev hx]
  simp [Instr.field, run_underlying hu, hf', asAgg, part, ha, hc']
theorem v_fieldA {fs : Array Field} {f : Field} {i k : Nat} {vs : Array Value} (us : List Value) (hx : ev l x = some (.agg vs)) (hu : P.underlying t = some (.struct fs)) (hf : fs.toList[i]? = some f)
    (ha : ∀ w, (isAgg f.type).run P w = .ok true w) (hs : ∀ w, (sizeOf f.type).run P w = .ok k w) (hc : (vs.toList.drop f.offset).take k = us) : Val P l w ⟨d, .field t x i, ty, pos, af, g⟩ (.agg us.toArray) := fun n a h => by
  have e1 : execOp a.eval ⟨d, .field t x i, ty, pos, af, g⟩ = Instr.field t (a.eval x) i >>= fun v => pure (.value v) := rfl
  have hf' : fs[i]? = some f := by simpa using hf
  have hc' : vs.extract f.offset (f.offset + k) = us.toArray := by
    apply Array.toList_inj.1
    rw [← hc]
    simp [List.take_drop]
  rw [e1, h.ev hx]
  simp [Instr.field, run_underlying hu, hf', asAgg, part, ha, hs, hc']

/-- A struct's literal: where each field lies, and the zero value. -/
def Builds (P : Program) (t : TypeId) (pl : List (Nat × Nat)) (z : List Value) : Prop :=
  ∀ w (parts : Array (Nat × Value)) cells, Instr.fill (pl.toArray[·]?) z.toArray parts.toList = some cells → (Instr.build t parts).run P w = .ok (.agg cells) w
theorem Builds.mk {fs : Array Field} {z : Value} {pl : List (Nat × Nat)} {zs : List Value} (hu : P.underlying t = some (.struct fs)) (hz : ∀ w, (zeroValue t).run P w = .ok z w) (hzs : z.cells.toList = zs)
    (hp : ∀ w, (fs.mapM fun f => (do pure (f.offset, ← sizeOf f.type) : Sem (Nat × Nat))).run P w = .ok pl.toArray w) : Builds P t pl zs := by
  intro w parts cells h
  have hz2 : z.cells = zs.toArray := by rw [← hzs]
  simp only [Instr.build, Sem.run_bind, hz, Result.andThen_ok, run_underlying hu, hp, hz2]
  rw [h]
  simp

def fillL (pl : List (Nat × Nat)) : List Value → List (Nat × Value) → Option (List Value)
  | cs, [] => some cs
  | cs, (i, v) :: r => match pl[i]? with
    | none => none
    | some (off, size) => bif Nat.beq v.cells.toList.length size && Nat.ble (off + v.cells.toList.length) cs.length then fillL pl (putAt cs off v.cells.toList) r else none

theorem foldl_put (o : Nat) : ∀ (us : List Value) (m : Nat) (cur : List Value), o + m + us.length ≤ cur.length → (us.zipIdx m).foldl (fun (cs : Array Value) (q : Value × Nat) => cs.setIfInBounds (o + q.2) q.1) cur.toArray = (putAt cur (o + m) us).toArray
  | [], m, cur, _ => by simp [putAt]
  | u :: us, m, cur, h => by
    simp only [List.length_cons] at h
    simp only [List.zipIdx_cons, List.foldl_cons]
    have e1 : cur.toArray.setIfInBounds (o + m) u = (cur.set (o + m) u).toArray := by simp
    rw [e1, foldl_put o us (m + 1) (cur.set (o + m) u) (by simp; omega)]
    congr 1
    simp only [putAt, List.length_cons]
    have e2 : o + (m + 1) = (o + m) + 1 := by omega
    rw [e2, List.take_add_one, List.take_set_of_le (Nat.le_refl _), List.getElem?_set_self (by omega)]
    have e3 : o + m + 1 + us.length = o + m + (us.length + 1) := by omega
    rw [e3, List.drop_set_of_lt (by omega)]
    simp

theorem fill_of_fillL (pl : List (Nat × Nat)) : ∀ (ps : List (Nat × Value)) (cs out : List Value), fillL pl cs ps = some out → Instr.fill (pl.toArray[·]?) cs.toArray ps = some out.toArray
  | [], cs, out, h => by
    simp only [fillL, Option.some.injEq] at h
    subst h
    rfl
  | (i, v) :: r, cs, out, h => by
    simp only [fillL] at h
    split at h
    · cases h
    · rename_i off size hp
      cases hb : (Nat.beq v.cells.toList.length size && Nat.ble (off + v.cells.toList.length) cs.length) with
      | false => rw [hb] at h; cases h
      | true =>
        rw [hb] at h
        simp only [cond_true] at h
        simp only [Bool.and_eq_true, Nat.beq_eq, Nat.ble_eq] at hb
        obtain ⟨h1, h2⟩ := hb
        have ih := fill_of_fillL pl r _ _ h
        have hp' : pl.toArray[i]? = some (off, size) := by simpa using hp
        have hs : v.cells.size = size := by simpa using h1
        have hle : off + v.cells.size ≤ cs.length := by simpa using h2
        have e9 : ∀ (us : Array Value) (f : Array Value → Value × Nat → Array Value) (s : Array Value), us.zipIdx.foldl f s = us.toList.zipIdx.foldl f s := by
          intro us f s
          obtain ⟨ul⟩ := us
          have e8 : ul.toArray.zipIdx.foldl f s = ul.zipIdx.foldl f s := by simp [← Array.foldl_toList]
          exact e8
        simp only [Instr.fill, hp']
        have h3 : ¬ ((v.cells.size ≠ size || off + v.cells.size > cs.toArray.size) = true) := by simp [hs]; omega
        simp only [h3, if_false, Bool.false_eq_true]
        rw [e9, foldl_put off v.cells.toList 0 cs (by simpa using hle)]
        exact ih

theorem v_build {pl : List (Nat × Nat)} {z : List Value} {ps : Array (Nat × Operand)} (hB : Builds P t pl z) (us : List Value) (cells : List Value)
    (hev : evs l (ps.toList.map (·.2)) = some us) (hf : fillL pl z ((ps.toList.map (·.1)).zip us) = some cells) :
    Val P l w ⟨d, .build t ps, ty, pos, af, g⟩ (.agg cells.toArray) := fun n a h => by
  have e1 : execOp a.eval ⟨d, .build t ps, ty, pos, af, g⟩ = Instr.build t (ps.map fun (i, x) => (i, a.eval x)) >>= fun v => pure (.value v) := rfl
  have hp := h.evs hev
  have : (ps.map fun (i, x) => (i, a.eval x)).toList = (ps.toList.map (·.1)).zip us := by
    rw [← hp]
    simp only [Array.toList_map]
    induction ps.toList with
    | nil => rfl
    | cons q qs ih => simp [ih]
  rw [e1]
  simp [hB w _ _ (by rw [this]; exact fill_of_fillL _ _ _ _ hf)]

/-- A call of a function by its name. -/
theorem evs_c {l : List (Nat × Value)} {x : Operand} {xs : List Operand} {v : Value} {vs : List Value} (hx : ev l x = some v) (hr : evs l xs = some vs) : evs l (x :: xs) = some (v :: vs) := by
  simp [evs, hx, hr]
theorem evs_n {l : List (Nat × Value)} : evs l [] = some [] := rfl
theorem d_call {f : FuncId} {xs : Array Operand} {ats : Array TypeId} (vs : List Value) {R : Value → World → Prop} (he : evs l xs.toList = some vs) (hc : ∀ as w, (callFunc f as).run P w = .ok (.enter f as) w)
    (hq : Calls P f vs.toArray w (Ret R)) : Does P l w ⟨d, .call { callee := .value (.func f), args := xs, argTypes := ats }, ty, pos, af, g⟩ R := fun n a h K Q hk => by
  have e1 : execOp a.eval ⟨d, .call { callee := .value (.func f), args := xs, argTypes := ats }, ty, pos, af, g⟩ = callFunc f (#[] ++ xs.map a.eval ++ #[]) := rfl
  have e2 : (#[] ++ xs.map a.eval ++ #[] : Array Value) = vs.toArray := by rw [h.evsA he]; simp
  unfold Oper.wp
  rw [e1, e2, hc]
  exact hq.mono fun e w' hr => by
    cases e with
    | returned v => exact hk v w' hr
    | panicked _ => exact hr.elim
    | outgrown => exact hr.elim

/-- A call of a function value. -/
theorem d_callV {f : FuncId} {xs : Array Operand} {ats : Array TypeId} {fst cap : Array Value} (vs : List Value) {R : Value → World → Prop} (hf : ev l x = some (.func (.func f) fst cap)) (he : evs l xs.toList = some vs)
    (hc : ∀ as w, (callFunc f as).run P w = .ok (.enter f as) w) (as : List Value) (has : fst.toList ++ vs ++ cap.toList = as)
    (hq : Calls P f as.toArray w (Ret R)) : Does P l w ⟨d, .call { callee := .value x, args := xs, argTypes := ats }, ty, pos, af, g⟩ R := fun n a h K Q hk => by
  have e1 : execOp a.eval ⟨d, .call { callee := .value x, args := xs, argTypes := ats }, ty, pos, af, g⟩ = (do let d ← Deferred.ofValue (a.eval x) (xs.map a.eval); invoke d.target d.args) := rfl
  have e3 : ((do let d ← Deferred.ofValue (a.eval x) (xs.map a.eval); invoke d.target d.args) : Sem Next).run P w = .ok (.enter f as.toArray) w := by
    rw [h.ev hf, h.evsA he]
    simp only [Deferred.ofValue, Sem.run_bind, Sem.run_pure, Result.andThen_ok, invoke, hc]
    subst has
    simp
  unfold Oper.wp
  rw [e1, e3]
  exact hq.mono fun e w' hr => by
    cases e with
    | returned v => exact hk v w' hr
    | panicked _ => exact hr.elim
    | outgrown => exact hr.elim
end

section
variable {P : Program} {fn : Func} {R : Value → World → Prop} {n : Nm} {l : List (Nat × Value)} {a : Act} {w : World}
theorem out1 {r : ResultVar} {v : Value} (h : Fr n l a) (hr : fn.results = #[r]) (hv : RV P l w r v) (hR : R v w) (hds : n.ds = [] := by rfl) : Out P fn R a w := by
  refine ⟨h.defers.trans hds, v, ?_, hR⟩
  have := hv.run h
  cases r <;> simpa [results, hr] using this
def rd (tmps : Array Value) : ResultVar → Sem Value
  | .tmp t => pure (tmps.getD t undef)
  | .cell a t => do loadVar t (← asAddr (tmps.getD a undef))
theorem RV.rd (h : Fr n l a) : ∀ {r : ResultVar} {v : Value}, RV P l w r v → (Stp.rd a.tmps r).run P w = .ok v w
  | .tmp t, v, hv => by simp [Stp.rd, h.has _ _ hv]
  | .cell p ty, v, ⟨ad, h1, h2⟩ => by simp [Stp.rd, h.has _ _ h1, asAddr, h2]
theorem results_rd (fn : Func) (tmps : Array Value) : results fn tmps = (do let vs ← fn.results.mapM (Stp.rd tmps); pure (if h : vs.size = 1 then vs[0] else .tuple vs)) := by
  unfold results
  congr 1
theorem out2 {r1 r2 : ResultVar} {v1 v2 : Value} (h : Fr n l a) (hr : fn.results = #[r1, r2]) (hv1 : RV P l w r1 v1) (hv2 : RV P l w r2 v2) (hR : R (.tuple #[v1, v2]) w) (hds : n.ds = [] := by rfl) : Out P fn R a w := by
  refine ⟨h.defers.trans hds, _, ?_, hR⟩
  rw [results_rd, hr]
  simp [hv1.rd h, hv2.rd h]
theorem out3 {r1 r2 r3 : ResultVar} {v1 v2 v3 : Value} (h : Fr n l a) (hr : fn.results = #[r1, r2, r3]) (hv1 : RV P l w r1 v1) (hv2 : RV P l w r2 v2) (hv3 : RV P l w r3 v3) (hR : R (.tuple #[v1, v2, v3]) w) (hds : n.ds = [] := by rfl) : Out P fn R a w := by
  refine ⟨h.defers.trans hds, _, ?_, hR⟩
  rw [results_rd, hr]
  simp [hv1.rd h, hv2.rd h, hv3.rd h]
end
end Go.Stp
