/- The step library, seventh part: equality of structs, arrays as values, slices of several elements, bits, bytes to text. -/
import Derived.Test.YtlpfcclecmalhaaDoorStpT
import Derived.Laws.StructEq
import Derived.Laws.IdiomStrings
set_option linter.unusedSimpArgs false
set_option linter.unusedVariables false
set_option linter.unusedSectionVars false
namespace Go.Stp
open Go.RowKit

section
variable {P : Program} {ops : Array Oper} {Q : Exit → Act → World → Prop} {rest : List Oper} {n : Nm} {dn : Nat} {l : List (Nat × Value)} {a : Act} {w : World} {w0 : Bs} {hl : List Own}
  {d : Option Nat} {x y : Operand} {t t' ty : TypeId} {pos : String} {af : Array Edge} {g : Option (Nat × Bool)} {V V' : Value} {cs : List Value} {e : TypeId} {b off : Nat} {fz : Nat × Nat} {k k' : IntKind} {p q : Int}

/-! ### structs that are compared -/
theorem v_aggeq {xs ys : Array Value} {B : Bool} (hx : ev l x = some (.agg xs)) (hy : ev l y = some (.agg ys)) (hm : P.eqGuardType P.depth t = false) (hE : ∀ w, (Op.equalIn 10000 t (.agg xs) (.agg ys)).run P w = .ok B w) :
    Val P l w ⟨d, .binOp .eql t x y t', ty, pos, af, g⟩ (.bool B) := fun n a h => by
  rw [ex_bin, h.ev hx, h.ev hy]
  simp only [Sem.run_bind, run_eqGuard_agg w _ _ _ _ _ _ hm, Result.andThen_ok, run_eql_struct, hE, Sem.run_pure]
theorem v_aggne {xs ys : Array Value} {B : Bool} (hx : ev l x = some (.agg xs)) (hy : ev l y = some (.agg ys)) (hm : P.eqGuardType P.depth t = false) (hE : ∀ w, (Op.equalIn 10000 t (.agg xs) (.agg ys)).run P w = .ok B w) :
    Val P l w ⟨d, .binOp .neq t x y t', ty, pos, af, g⟩ (.bool (!B)) := fun n a h => by
  rw [ex_bin, h.ev hx, h.ev hy]
  simp only [Sem.run_bind, run_eqGuard_agg w _ _ _ _ _ _ hm, Result.andThen_ok, run_neq_struct, hE, Sem.run_pure]

/-! ### bits -/
theorem v_band (hx : ev l x = some (.int k p)) (hy : ev l y = some (.int k q)) : Val P l w ⟨d, .binOp .and t x y t', ty, pos, af, g⟩ (.int k (bits .and k p q)) := fun n a h => by
  rw [ex_bin, h.ev hx, h.ev hy]
  have e1 : eqGuard .and t x y (.int k p) (.int k q) = pure () := rfl
  rw [e1]
  simp [Go.binOp_and, intBits_and]

/-! ### arrays as values -/
theorem fill_more {f f' : Nat → Option (Nat × Nat)} (hf : ∀ i p, f i = some p → f' i = some p) : ∀ (ps : List (Nat × Value)) (cs out : Array Value), Instr.fill f cs ps = some out → Instr.fill f' cs ps = some out
  | [], cs, out, h => h
  | (i, v) :: r, cs, out, h => by
    simp only [Instr.fill] at h ⊢
    cases hi : f i with
    | none => rw [hi] at h; cases h
    | some p =>
      rw [hi] at h
      rw [hf i p hi]
      obtain ⟨o, s⟩ := p
      simp only at h ⊢
      split at h
      · cases h
      · rename_i hc
        rw [if_neg hc]
        exact fill_more hf r _ _ h
theorem Builds.mkA {len sz : Nat} {z : Value} {pl : List (Nat × Nat)} {zs : List Value} (hu : P.underlying t = some (.array len e)) (hs : ∀ w, (sizeOf e).run P w = .ok sz w) (hz : ∀ w, (zeroValue t).run P w = .ok z w) (hzs : z.cells.toList = zs)
    (hp : ∀ i p, pl.toArray[i]? = some p → p = (i * sz, sz)) : Builds P t pl zs := by
  intro w parts cells h
  have hz2 : z.cells = zs.toArray := by rw [← hzs]
  have h2 := fill_more (f' := fun i => some (i * sz, sz)) (fun i p hi => by rw [hp i p hi]) _ _ _ h
  simp only [Instr.build, Sem.run_bind, hz, Result.andThen_ok, run_underlying hu, hs, hz2]
  rw [h2]
  simp
theorem v_idxArr {len : Nat} {xs : List Value} (ht : P.underlying t = some (.array len e)) (hs : ∀ w, (sizeOf e).run P w = .ok 1 w) (ha : ∀ w, (isAgg e).run P w = .ok false w) (hx : ev l x = some (.agg xs.toArray)) (hy : ev l y = some (.int k p))
    (hp : 0 ≤ p ∧ p < len) (hc : xs[p.toNat]? = some V) : Val P l w ⟨d, .index t x y, ty, pos, af, g⟩ V := fun n a h => by
  rw [ex_index, h.ev hx, h.ev hy]
  simp [Instr.index, asIntOf, run_underlying ht, hp, part, ha, hs, hc]

/-- Where the elements lie. -/
def plA (len sz : Nat) : List (Nat × Nat) := (List.range len).map fun i => (i * sz, sz)
theorem plA_get (len sz : Nat) : ∀ i p, (plA len sz).toArray[i]? = some p → p = (i * sz, sz) := by
  intro i p h
  simp only [plA, List.getElem?_toArray, List.getElem?_map, Option.map_eq_some_iff] at h
  obtain ⟨j, hj, rfl⟩ := h
  obtain ⟨hlt, rfl⟩ := List.getElem?_eq_some_iff.1 hj
  simp
/-! ### slices -/
/-- '[]T{x, y, ..}': in a new row. -/
theorem st_sliceN {sz len : Nat} (h : Fr n l a) (H : Hp w0 hl w) (ht : P.underlying t = some (.slice e)) (hs : ∀ w, (sizeOf e).run P w = .ok sz w) {z : Value} (hz : ∀ w, (zeroValue e).run P w = .ok z w) {ps : Array (Nat × Operand)} (hsz : (Nat.ble 1 (len * sz) && Nat.ble (len * sz) 1000) = true)
    {zl : List Value} (hzl : (Array.range (len * sz)).map (fun i => z.cells[i % z.cells.size]!) = zl.toArray) {pl : List (Nat × Nat)} (hp : ∀ i p, pl.toArray[i]? = some p → p = (i * sz, sz))
    (us : List Value) (cells : List Value) (hev : evs l (ps.toList.map (·.2)) = some us) (hf : fillL pl zl ((ps.toList.map (·.1)).zip us) = some cells) (hd : Nat.blt dn n.n = true)
    (kk : ∀ a' b w', w.heap.size ≤ b → Ext w w' → Hp w0 (hl ++ [.blk b (Cel cells e)]) w' → Fr n ((dn, .slice (some ⟨b, 0, none⟩) len len) :: l) a' → wpList P ops Q rest a' w') :
    wpList P ops Q (⟨some dn, .buildSlice t len ps, ty, pos, af, none⟩ :: rest) a w := by
  simp only [Bool.and_eq_true, Nat.ble_eq] at hsz
  refine wpList_plain rfl fun K hK => ?_
  have e1 : execOp a.eval ⟨some dn, .buildSlice t len ps, ty, pos, af, none⟩ = Instr.buildSlice t len (ps.map fun (i, x) => (i, a.eval x)) >>= fun v => pure (.value v) := rfl
  have hp2 := h.evs hev
  have e3 : (ps.map fun (i, x) => (i, a.eval x)).toList = (ps.toList.map (·.1)).zip us := by
    rw [← hp2]
    simp only [Array.toList_map]
    induction ps.toList with
    | nil => rfl
    | cons q qs ih => simp [ih]
  have e5 := fill_more (f' := fun i => some (i * sz, sz)) (fun i p hi => by rw [hp i p hi]) _ _ _ (fill_of_fillL pl _ _ _ hf)
  have e2 : (execOp a.eval ⟨some dn, .buildSlice t len ps, ty, pos, af, none⟩).run P w = .ok (.value (.slice (some ⟨w.heap.size, 0, none⟩) len len)) (w.alloc (Cel cells e)) := by
    rw [e1]
    have h1 : ¬ (len * sz > 2 ^ 24) := by omega
    have h2 : ¬ (len * sz = 0) := by omega
    simp only [Instr.buildSlice, Sem.run_bind, run_underlying ht, Result.andThen_ok, hs, h1, if_false, h2, hz, Sem.run_pure, Sem.run_ite, hzl, e3, e5]
    simp [newRow]
  unfold Oper.wp
  rw [e2]
  refine hK _ _ (kk _ w.heap.size _ (Nat.le_refl _) (Ext.alloc _ _) (H.push (Ext.alloc _ _) _ ?_ (fun b hb => by simp only [Own.at, Option.some.injEq] at hb; omega)) (h.put hd _))
  exact heap_alloc_new w _
/-- '[]T{}': an empty row of the call's own. -/
theorem st_slice0 {sz : Nat} (h : Fr n l a) (H : Hp w0 hl w) (ht : P.underlying t = some (.slice e)) (hs : ∀ w, (sizeOf e).run P w = .ok sz w) (hd : Nat.blt dn n.n = true)
    (kk : ∀ a' v w', Ext w w' → Hp w0 (hl ++ [.row e sz v 0 []]) w' → Fr n ((dn, v) :: l) a' → wpList P ops Q rest a' w') :
    wpList P ops Q (⟨some dn, .buildSlice t 0 #[], ty, pos, af, none⟩ :: rest) a w := by
  refine wpList_plain rfl fun K hK => ?_
  have e1 : execOp a.eval ⟨some dn, .buildSlice t 0 #[], ty, pos, af, none⟩ = Instr.buildSlice t 0 ((#[] : Array (Nat × Operand)).map fun (i, x) => (i, a.eval x)) >>= fun v => pure (.value v) := rfl
  have e2 : (execOp a.eval ⟨some dn, .buildSlice t 0 #[], ty, pos, af, none⟩).run P w = .ok (.value (.slice (some ⟨w.heap.size, 0, none⟩) 0 0)) (w.alloc (Cel [] e)) := by
    rw [e1]
    simp [Instr.buildSlice, run_underlying ht, hs, Instr.fill, newRow]
    have er : Array.map (fun _ => (default : Value)) (Array.range 0) = #[] := by
      apply Array.ext
      · simp
      · intro i h1
        simp at h1
    first | rfl | rw [er]
  unfold Oper.wp
  rw [e2]
  refine hK _ _ (kk _ _ _ (Ext.alloc _ _) (H.pushRow (Ext.alloc _ _) ⟨by simp, .inr ⟨w.heap.size, 0, #[], rfl, Nat.le_refl _, heap_alloc_new w _, Nat.le_refl _, by decide, by simp, by simp⟩⟩) (h.put hd _))
/-- A slice over a block of the call's own reads as what the block holds. -/
theorem Reads.of_blk {α : Type} {enc : α → List Value} {sz c : Nat} {data : List α} (hb : w.heap[b]? = some (.cells cs.toArray e fz)) (hd : data.flatMap enc = cs) : Reads w (.slice (some ⟨b, 0, none⟩) data.length c) sz enc data :=
  .inr ⟨b, 0, c, cs, e, fz, rfl, hb, fun j u hu => by rw [Nat.zero_add, ← hd]; exact hu⟩
/-- Bytes in memory. -/
abbrev u8E (b : UInt8) : List Value := [.int .u8 (b.toNat : Int)]
theorem u8_flat : ∀ data : List UInt8, data.flatMap u8E = data.map fun b => Value.int .u8 (b.toNat : Int)
  | [] => rfl
  | b :: r => by rw [List.flatMap_cons, u8_flat r]; rfl
/-- 'string(b)'. -/
theorem v_toStr {data : List UInt8} (hs : P.underlying t = some (.slice e)) (he : P.underlying e = some (.int .u8)) (hd : P.underlying t' = some .string) (hx : ev l x = some V) (hr : Reads w V 1 u8E data) (hne : data ≠ []) :
    Val P l w ⟨d, .convert t t' x, ty, pos, af, g⟩ (S data) := fun n a h => by
  have e1 : execOp a.eval ⟨d, .convert t t' x, ty, pos, af, g⟩ = convert t t' (a.eval x) >>= fun v => pure (.value v) := rfl
  rcases hr with ⟨_, h0⟩ | ⟨gb, o, cap, cs', e', fz', hv, hb, hc⟩
  · exact absurd h0 hne
  · rw [e1, h.ev hx, hv]
    have := run_convert_bytes_back (P := P) w t t' e ⟨gb, o, none⟩ cap data hs he hd (fun j hj => by
      rw [Addr.add_lit, Cel_cell hb]
      refine hc j _ ?_
      rw [u8_flat, List.getElem?_map, List.getElem?_eq_getElem hj]
      rfl)
    simp [this]
end
end Go.Stp
