/- The step library, twenty-first part: what is shown of a piece of code holds in the round of a range over a function. -/
import Derived.Test.YtlpfcclecmalhaaDoorStpW
import Derived.RangeFuncCalls
import Derived.OrdersIn
import Derived.TacticsIn
set_option linter.unusedSimpArgs false
set_option linter.unusedVariables false
set_option linter.unusedSectionVars false
namespace Go.Stp
open Go.RowKit
section
variable {P : Program} {ops : Array Oper} {Q : Exit → Act → World → Prop}
/-- Neither a defer statement nor a call of a row. -/
def plainOp (o : Oper) : Bool := match o.op with
  | .defer _ => false
  | _ => true
theorem rowsIn_round {n : Nat} {row : String} {args : Array Value} {w : World} {R : Value → World → Prop} (l : Nat) (h : Rows P row args w R) : RowsIn (Fence.wide.inRound l) n P row args w R := fun c cs _ =>
  let ⟨v, w', r, s⟩ := h c cs
  ⟨v, w', r, stepsIn_wide.2 s⟩
theorem Oper.wp_round {o : Oper} {a : Act} {w : World} {K : Act → World → Prop} {n : Nat} (l : Nat) (hp : plainOp o = true) (h : o.wp P a w K Q) : o.wpIn (Fence.wide.inRound l) n P a w K Q := by
  have hd : ∀ c, o.op ≠ .defer c := fun c e => by
    unfold plainOp at hp
    rw [e] at hp
    cases hp
  refine ⟨fun _ _ => trivial, ?_⟩
  rw [show (Fence.wide.inRound l).round = some l from rfl, Oper.semAt_some l a.eval o hd]
  unfold Oper.wp at h
  generalize (execOp a.eval o).run P w = r at h
  cases r with
  | ok x w' =>
    cases x with
    | value v => exact h
    | skip => exact h
    | defer d => exact h
    | enter f args => exact ⟨fun e => (nomatch e), CallsIn.inRound l (callsIn_wide.2 h)⟩
    | row r args => exact ⟨fun e => (nomatch e), rowsIn_round l h⟩
    | _ => exact h.elim
  | halt s w' =>
    cases s with
    | panic v => exact h
    | _ => exact h.elim
/-- It ends, and no other way. -/
def onlyN (K : Act → World → Prop) : Exit → Act → World → Prop
  | .normal, a, w => K a w
  | _, _, _ => False
theorem onlyN_lets {K : Act → World → Prop} : ¬ LetsOut (onlyN K) := fun ⟨_, _, h⟩ => h
theorem wpAny_round {K : Act → World → Prop} {n : Nat} (l : Nat) (hp : ∀ (i : Nat) (o : Oper), ops[i]? = some o → plainOp o = true) : ∀ (f : Nat) (listed : Array Bool) (a : Act) (w : World), wpAny P .any ops (onlyN K) f listed a w → wpAnyIn (Fence.wide.inRound l) n P .any ops (onlyN K) f listed a w
  | 0, _, _, _, h => h
  | f + 1, listed, a, w, h => ⟨h.1, fun i hi => by
      have h1 := h.2 i hi
      unfold wpOp at h1
      unfold wpOpIn
      cases ho : ops[i]? with
      | none => rw [ho] at h1; exact wpAny_round l hp f _ _ _ h1
      | some o =>
        rw [ho] at h1
        simp only at h1 ⊢
        by_cases hw : Region.wanted o (yielded ops a.tmps) = true
        · rw [if_pos hw] at h1 ⊢
          rcases h1 with h1 | ⟨_, h1⟩
          · exact Oper.wp_round l (hp i o ho) (Oper.wp_mono (fun a w => wpAny_round l hp f _ a w) h1)
          · exact absurd h1 onlyN_lets
        · rw [if_neg hw] at h1 ⊢
          exact ⟨fun _ _ => trivial, wpAny_round l hp f _ _ _ h1⟩⟩
theorem region_round {K : Act → World → Prop} {id : Nat} {a : Act} {w : World} {n : Nat} (l : Nat) (hm : P.follows .mixedOrders = true) (hp : ops.all plainOp = true)
    (h : wpAny P .any ops (onlyN K) ops.size (Array.replicate ops.size false) a { w with drawn := w.drawn + 1 }) : (Code.region id ops true).wpIn (Fence.wide.inRound l) n P (onlyN K) a w :=
  wpIn_region_any hm (wpAny_round l (fun i o ho => Array.all_eq_true_iff_forall_mem.1 hp o (Array.mem_of_getElem? ho)) _ _ _ _ h)
theorem wpOp_round {K K' K2 : Act → World → Prop} {n : Nat} (l : Nat) (hp : ∀ (i : Nat) (o : Oper), ops[i]? = some o → plainOp o = true) {i : Nat} {a : Act} {w : World} (hk : ∀ a w, K' a w → K2 a w) (h1 : wpOp P ops (onlyN K) i K' a w) : wpOpIn (Fence.wide.inRound l) n P ops (onlyN K) i K2 a w := by
  unfold wpOp at h1
  unfold wpOpIn
  cases ho : ops[i]? with
  | none => rw [ho] at h1; exact hk _ _ h1
  | some o =>
    rw [ho] at h1
    simp only at h1 ⊢
    by_cases hw : Region.wanted o (yielded ops a.tmps) = true
    · rw [if_pos hw] at h1 ⊢
      rcases h1 with h1 | ⟨_, h1⟩
      · exact Oper.wp_round l (hp i o ho) (Oper.wp_mono hk h1)
      · exact absurd h1 onlyN_lets
    · rw [if_neg hw] at h1 ⊢
      exact ⟨fun _ _ => trivial, hk _ _ h1⟩
theorem wpOps_round {K : Act → World → Prop} {n : Nat} (l : Nat) (hp : ∀ (i : Nat) (o : Oper), ops[i]? = some o → plainOp o = true) : ∀ (is : List Nat) (a : Act) (w : World), wpOps P ops (onlyN K) is a w → wpOpsIn (Fence.wide.inRound l) n P ops (onlyN K) is a w
  | [], _, _, h => h
  | i :: rest, a, w, h => by
    rw [wpOps_cons] at h
    rw [wpOpsIn_cons]
    exact wpOp_round l hp (wpOps_round l hp rest) h
theorem regionS_round {K : Act → World → Prop} {id : Nat} {ol : List Oper} {a : Act} {w : World} {n : Nat} (l : Nat) (hp : ol.toArray.all plainOp = true) (h : wpList P ol.toArray (onlyN K) ol a w) : (Code.region id ol.toArray false).wpIn (Fence.wide.inRound l) n P (onlyN K) a w := by
  refine wpIn_region (wpOps_round l (fun i o ho => Array.all_eq_true_iff_forall_mem.1 hp o (Array.mem_of_getElem? ho)) _ _ _ ?_)
  have := wpOps_eq_wpList (P := P) (ops := ol.toArray) (Q := onlyN K) ol 0 (fun j => by simp)
  rw [← List.range_eq_range'] at this
  rw [show ol.toArray.size = ol.length by simp, this]
  exact h
end
end Go.Stp
