/- The step library, sixteenth part: values behind interfaces; arrays of arrays in memory; lent maps. -/
import Derived.Test.YtlpfcclecmalhaaDoorStpM
set_option linter.unusedSimpArgs false
set_option linter.unusedVariables false
set_option linter.unusedSectionVars false
namespace Go.Stp
open Go.RowKit
section
variable {P : Program} {ops : Array Oper} {Q : Exit → Act → World → Prop} {rest : List Oper} {n : Nm} {dn : Nat} {l : List (Nat × Value)} {a : Act} {w : World} {w0 : Bs} {hl : List Own} {Zi Z : FZ}
  {d : Option Nat} {x y : Operand} {t t' ty : TypeId} {pos : String} {af : Array Edge} {g : Option (Nat × Bool)} {V V' : Value} {cs : List Value} {e : TypeId} {b off : Nat} {k : IntKind} {p : Int}
/-- A method of a value behind an interface. -/
theorem d_invoke {T : TypeId} {name : String} {f : FuncId} {xs : Array Operand} {ats : Array TypeId} (vs : List Value) {R : Value → World → Prop}
    (hm : ∀ v as w, (callMethod (.iface T v) name as).run P w = .ok (.enter f (#[v] ++ as)) w) (hx : ev l x = some (.iface T V)) (he : evs l xs.toList = some vs)
    (hq : Calls P f (V :: vs).toArray w (Ret R)) : Does P l w ⟨d, .call { callee := .invoke x name, args := xs, argTypes := ats }, ty, pos, af, g⟩ R := fun n a h K Q hk => by
  have e1 : execOp a.eval ⟨d, .call { callee := .invoke x name, args := xs, argTypes := ats }, ty, pos, af, g⟩ = callMethod (a.eval x) name ((#[a.eval x] ++ xs.map a.eval).extract 1 (#[a.eval x] ++ xs.map a.eval).size) := by
    show (do let d ← (pure { target := .fn (.method name) #[], args := #[a.eval x] ++ xs.map a.eval } : Sem Deferred); invoke d.target d.args) = _
    have e0 : (#[a.eval x] ++ Array.map a.eval xs)[0]? = some (a.eval x) := by rw [Array.getElem?_append_left (Nat.zero_lt_one)]; rfl
    simp [invoke, e0]
  have e2 : (#[a.eval x] ++ xs.map a.eval).extract 1 (#[a.eval x] ++ xs.map a.eval).size = vs.toArray := by
    rw [h.evsA he]
    simp
  unfold Oper.wp
  rw [e1, e2, h.ev hx, hm]
  have e3 : #[V] ++ vs.toArray = (V :: vs).toArray := by simp
  rw [e3]
  exact hq.mono fun e w' hr => by
    cases e with
    | returned v => exact hk v w' hr
    | panicked _ => exact hr.elim
    | outgrown => exact hr.elim
theorem v_buildZ (hm : ∀ w, (Instr.build t #[]).run P w = .ok V w) : Val P l w ⟨d, .build t #[], ty, pos, af, g⟩ V := fun n a h => by
  have e1 : execOp a.eval ⟨d, .build t #[], ty, pos, af, g⟩ = Instr.build t (#[].map fun (i, x) => (i, a.eval x)) >>= fun v => pure (.value v) := rfl
  rw [Array.map_empty] at e1
  rw [e1]
  simp [hm]
/-- A check that a pointer is none of nil. -/
theorem v_nilCheck {q : Addr} (hx : ev l x = some (.pointer (some q))) : Val P l w ⟨d, .nilCheck x, ty, pos, af, g⟩ (.pointer (some q)) := fun n a h => by
  have e1 : execOp a.eval ⟨d, .nilCheck x, ty, pos, af, g⟩ = (match a.eval x with
    | .pointer none | .nilIface | .nilFunc => runtimePanic .nilDeref
    | .func (.method name) first captured =>
      match (first[0]? : Option Value) with
      | some .nilIface => runtimePanic .nilDeref
      | some (.iface t w) => do
        if (← nilAhead ((← program).types.size + Made.depth) t w name) != some false then
          unsupported (.noEntry "op/nilCheck.the method's receiver behind this interface value is a nil pointer, or cannot be seen to be none, and the arguments act or may panic (ledger 612)")
        pure (.value (.func (.method name) first captured))
      | _ => pure (.value (.func (.method name) first captured))
    | x => pure (.value x) : Sem Next) := rfl
  rw [e1, h.ev hx]
  rfl
theorem v_mkIface (hm : ∀ v w, (Instr.makeInterface t v).run P w = .ok (.iface t v) w) (hx : ev l x = some V) : Val P l w ⟨d, .makeInterface t x, ty, pos, af, g⟩ (.iface t V) := fun n a h => by
  have e1 : execOp a.eval ⟨d, .makeInterface t x, ty, pos, af, g⟩ = Instr.makeInterface t (a.eval x) >>= fun v => pure (.value v) := rfl
  rw [e1, h.ev hx]
  simp [hm]
/-- The address of an element of an array that lies in memory. -/
theorem v_idxArrG {m sz : Nat} (ht : P.underlying t = some (.array m e)) (hs : ∀ w, (sizeOf e).run P w = .ok sz w) (hx : ev l x = some (.pointer (some ⟨b, off, none⟩))) (hy : ev l y = some (.int k p)) (hp : 0 ≤ p ∧ p < (m : Int)) :
    Val P l w ⟨d, .indexAddr t x y, ty, pos, af, g⟩ (.pointer (some ⟨b, off + p.toNat * sz, none⟩)) := fun n a h => by
  have e1 : execOp a.eval ⟨d, .indexAddr t x y, ty, pos, af, g⟩ = Instr.indexAt t (a.eval x) (a.eval y) >>= fun v => pure (.value v) := rfl
  rw [e1, h.ev hx, h.ev hy]
  have h3 : (⟨b, off, none⟩ : Addr).add (p.toNat * sz) = ⟨b, off + p.toNat * sz, none⟩ := by
    unfold Addr.add
    by_cases h0 : p.toNat * sz = 0 <;> simp [h0]
  simp [Instr.indexAt, asIntOf, Instr.sureAddr, run_underlying ht, hs, hp, h3]
theorem flat_part {α : Type} {enc : α → List Value} {sz : Nat} (henc : ∀ a, (enc a).length = sz) : ∀ {xs : List α} {k : Nat} {v : α}, xs[k]? = some v → ((xs.flatMap enc).drop (k * sz)).take sz = enc v
  | u :: r, 0, v, h => by
    simp only [List.getElem?_cons_zero, Option.some.injEq] at h
    subst h
    simp only [Nat.zero_mul, List.drop_zero, List.flatMap_cons]
    rw [List.take_append_of_le_length (by rw [henc]; exact Nat.le_refl _), List.take_of_length_le (by rw [henc]; exact Nat.le_refl _)]
  | u :: r, k + 1, v, h => by
    simp only [List.getElem?_cons_succ] at h
    have e1 : (k + 1) * sz = (enc u).length + k * sz := by rw [henc, Nat.add_mul]; omega
    rw [List.flatMap_cons, e1, List.drop_length_add_append]
    exact flat_part henc h
  | [], k, v, h => by simp at h
theorem flat_put {α : Type} {enc : α → List Value} {sz : Nat} (henc : ∀ a, (enc a).length = sz) {v : α} : ∀ {xs : List α} {k : Nat}, k < xs.length → putAt (xs.flatMap enc) (k * sz) (enc v) = (xs.set k v).flatMap enc
  | u :: r, 0, _ => by
    simp only [Nat.zero_mul, List.set_cons_zero, List.flatMap_cons, putAt]
    rw [henc]
    have e1 : 0 + sz = (enc u).length + 0 := by rw [henc]; omega
    rw [e1, List.drop_length_add_append]
    simp
  | u :: r, k + 1, h => by
    simp only [List.length_cons] at h
    have e1 : (k + 1) * sz = (enc u).length + k * sz := by rw [henc, Nat.add_mul]; omega
    rw [List.flatMap_cons, e1, putAt_right, flat_put henc (by omega)]
    rfl
  | [], k, h => by simp at h
/-- A load of an element. -/
theorem v_loadEl {α : Type} {enc : α → List Value} {sz T : Nat} {xs : List α} {v : α} (kk : Nat) (hx : ev l x = some (.pointer (some ⟨b, off, none⟩))) (ha : ∀ w, (isAgg t).run P w = .ok true w) (hs : ∀ w, (sizeOf t).run P w = .ok sz w) (hb : w.heap[b]? = some (Cel (xs.flatMap enc) T))
    (hk : xs[kk]? = some v) (hoff : off = kk * sz) (henc : ∀ a, (enc a).length = sz) : Val P l w ⟨d, .load t x, ty, pos, af, g⟩ (.agg (enc v).toArray) :=
  v_loadA (enc v) hx ha hs hb (by rw [hoff]; exact flat_part henc hk) (henc v)
/-- A store of an element. -/
theorem z_storeEl {α : Type} {enc : α → List Value} {sz T : Nat} {xs : List α} {v : α} (kk : Nat) (h : Fr n l a) (H : HZ w0 Zi Z hl w) (i : Nat) (hx : ev l x = some (.pointer (some ⟨b, off, none⟩))) (hy : ev l y = some (.agg (enc v).toArray)) (hi : hl[i]? = some (.blk b (Cel (xs.flatMap enc) T)))
    (hs : ∀ w, (sizeOf t).run P w = .ok sz w) (henc : ∀ a, (enc a).length = sz) (h1 : allOne (enc v) = true) (hk : kk < xs.length) (hoff : off = kk * sz) {hl' : List Own} (hhl : hl.set i (.blk b (Cel ((xs.set kk v).flatMap enc) T)) = hl')
    (kc : ∀ w', HZ w0 Zi Z hl' w' → wpList P ops Q rest a w') :
    wpList P ops Q (⟨none, .store t x y, ty, pos, af, none⟩ :: rest) a w := by
  have hl1 : (xs.flatMap enc).length = xs.length * sz := flatMap_len enc sz henc xs
  refine z_store h H i hx hy hi hs (enc v) rfl (henc v) h1 ?_ _ ?_ hhl kc
  · rw [hl1, hoff]
    have : (kk + 1) * sz ≤ xs.length * sz := Nat.mul_le_mul_right _ hk
    rw [Nat.add_mul] at this
    omega
  · rw [hoff]
    exact flat_put henc hk
end
section
variable {w0 : Bs} {w w' : World} {Zi Z : FZ} {hl : List Own}
theorem Hp.newB {w0 : World} {b : Nat} {o : Obj} (H : Hp w0 hl w) {i : Nat} (hi : hl[i]? = some (.blk b o)) : w0.heap.size ≤ b := by
  rcases H.lo i _ hi b rfl with h | h
  · exact h
  · cases h
/-- A call begins that is lent a map. -/
theorem HZ.startLM {b : Nat} {o : Obj} (hZ : Z.inn w) (ho : w.heap[b]? = some o) (hoff : Z b = none) : HZ ⟨w, [b]⟩ Z Z [.blk b o] w := HZ.startLB hZ ho hoff
end
end Go.Stp
