/- The library's functions, as the walks want them. -/
import Derived.Test.YtmfblggkgmgccaaDoorF
import Derived.Test.YtmfblggkgmgccaaDoorArgPlain
import Derived.Test.YtmfblggkgmgccaaDoorShelf
import Derived.Lib.SmallJoins
import Derived.Laws.Externs
set_option linter.unusedSimpArgs false
set_option linter.unusedVariables false
set_option linter.unusedSectionVars false
namespace Go.Proofs.YtmfblggkgmgccaaDoor
open Go.Stp Go.RowKit Go.ValP
set_option maxRecDepth 100000
/-- What is asked of the package-level variables. -/
structure GW (w : World) : Prop where
  tab : Lib.TabIs Tryd.prog w "strings.asciiSpace" .u8 Lib.asciiSpaceTab
theorem GW.ext {w w' : World} (h : GW w) (X : Ext w w') : GW w' where
  tab := Joins.tab_stays (P := Tryd.prog) (n := "strings.asciiSpace") (g := 1) (by kernel_rfl) h.tab X (Nat.le_refl _)
theorem toL (l : List UInt8) : (⟨l.toArray⟩ : ByteArray).data.toList = l := rfl

theorem lib_compare {a b : List UInt8} {w : World} : Calls Tryd.prog 26 [S a, S b].toArray w (Ret fun v w' => v = .int .i64 (Lib.compareBytes a b) ∧ Ext w w') := by
  refine (Tryd.strings_Compare ⟨a.toArray⟩ ⟨b.toArray⟩ w).mono ?_
  rintro e w' ⟨rfl, rfl⟩
  exact ⟨rfl, Ext.refl _⟩

theorem lib_cutPrefix {a b : List UInt8} {w : World} : Calls Tryd.prog 28 [S a, S b].toArray w (Ret fun v w' => v = .tuple #[S (Lib.trimPrefix a b, Lib.hasPrefix a b).1, .bool (Lib.trimPrefix a b, Lib.hasPrefix a b).2] ∧ Ext w w') := by
  refine (Tryd.strings_CutPrefix ⟨a.toArray⟩ ⟨b.toArray⟩ w).mono ?_
  rintro e w' ⟨rfl, rfl⟩
  exact ⟨rfl, Ext.refl _⟩

theorem lib_fields {a : List UInt8} {w : World} (h1 : a.length < 4294967281 ∧ (a.all fun b => decide (b.toNat < 128)) = true) (hG : GW w) : Calls Tryd.prog 35 [S a].toArray w (Ret fun v w' => RdZ (ZB Z0 w.heap.size w') v 1 eS (Lib.fields a) ∧ Ext w w') := by
  refine (Tryd.strings_Fields ⟨a.toArray⟩ w h1.1 (fun j b hb => ?_) hG.tab).mono ?_
  · have := List.all_eq_true.1 h1.2 b (List.mem_of_getElem? hb)
    simpa using this
  rintro e w' ⟨rfl, rfl⟩
  refine ⟨.inr ⟨w.heap.size, 0, _, (Lib.fields a).map S, 9, (0, 0), rfl, Nat.le_refl _, ?_, fun j u hu => ?_⟩, Ext.alloc _ _⟩
  · unfold ZB
    rw [if_pos (Nat.le_refl _)]
    exact heap_alloc_new w _
  · rw [Nat.zero_add]
    have : (Lib.fields a).flatMap eS = (Lib.fields a).map S := by
      induction Lib.fields a with
      | nil => rfl
      | cons x r ih => rw [List.flatMap_cons, ih]; rfl
    rw [← this]
    exact hu

theorem lib_mul64 {x y : Int} {w : World} (h : (0 ≤ x ∧ x ≤ 18446744073709551615) ∧ 0 ≤ y ∧ y ≤ 18446744073709551615) : Calls Tryd.prog 37 [.int .u64 x, .int .u64 y].toArray w (Ret fun v w' => v = .tuple #[.int .u64 (x * y / 18446744073709551616, x * y % 18446744073709551616).1, .int .u64 (x * y / 18446744073709551616, x * y % 18446744073709551616).2] ∧ Ext w w') := by
  obtain ⟨X, rfl⟩ := Int.eq_ofNat_of_zero_le h.1.1
  obtain ⟨Y, rfl⟩ := Int.eq_ofNat_of_zero_le h.2.1
  refine (Tryd.bits_Mul64 X Y (by omega) (by omega) w).mono ?_
  rintro e w' ⟨rfl, rfl⟩
  refine ⟨?_, Ext.refl _⟩
  simp

theorem v_add64 {l : List (Nat × Value)} {w : World} {d : Option Nat} {ty : TypeId} {pos : String} {af : Array Edge} {g : Option (Nat × Bool)} {x y z : Operand} {p q r : Int} {ats : Array TypeId} (hx : ev l x = some (.int .u64 p)) (hy : ev l y = some (.int .u64 q)) (hz : ev l z = some (.int .u64 r)) (h : 0 ≤ p ∧ 0 ≤ q ∧ 0 ≤ r ∧ r ≤ 1) :
    Val Tryd.prog l w ⟨d, .call { callee := .value (.func 38), args := #[x, y, z], argTypes := ats }, ty, pos, af, g⟩ (.tuple #[.int .u64 ((p + q + r) % 18446744073709551616, (p + q + r) / 18446744073709551616).1, .int .u64 ((p + q + r) % 18446744073709551616, (p + q + r) / 18446744073709551616).2]) := fun n a hf => by
  have e1 : execOp a.eval ⟨d, .call { callee := .value (.func 38), args := #[x, y, z], argTypes := ats }, ty, pos, af, g⟩ = callFunc 38 (#[] ++ #[x, y, z].map a.eval ++ #[]) := rfl
  have e2 : (#[] ++ #[x, y, z].map a.eval ++ #[] : Array Value) = #[.int .u64 p, .int .u64 q, .int .u64 r] := by simp [hf.ev hx, hf.ev hy, hf.ev hz]
  rw [e1, e2, run_callFunc_extern (e := add64Entry) Tryd.func38 rfl rfl rfl rfl, run_add64 p q r h.1 h.2.1 h.2.2.1 h.2.2.2]
  rfl

theorem lib_lz64 {x : Int} {w : World} (h : 0 ≤ x ∧ x ≤ 18446744073709551615) : Calls Tryd.prog 44 [.int .u64 x].toArray w (Ret fun v w' => v = .int .i64 (64 - (Lib.bitLen x.toNat : Int)) ∧ Ext w w') := by
  refine (Tryd.bits_LeadingZeros64 x w h.1 h.2).mono ?_
  rintro e w' ⟨rfl, rfl⟩
  exact ⟨rfl, Ext.refl _⟩
end Go.Proofs.YtmfblggkgmgccaaDoor
