/- Joined texts. -/
import Derived.Lib.SmallJoins
import Derived.Laws.Externs
import Derived.Test.YtcecjdnkcbfhlaaGreatDoorQF0
import Derived.Test.YtcecjdnkcbfhlaaGreatDoorQFS
import Derived.Test.YtcecjdnkcbfhlaaGreatDoorQL0
import Derived.Test.YtcecjdnkcbfhlaaGreatDoorQShelf
set_option linter.unusedSimpArgs false
set_option linter.unusedVariables false
set_option linter.unusedSectionVars false
namespace Go.Proofs.YtcecjdnkcbfhlaaGreatDoor
open Go.Stp Go.RowKit Go.ValP
set_option maxRecDepth 100000
structure GW (w : World) : Prop where
 tab : Lib.TabIs Tryz.prog w "strings.asciiSpace" .u8 Lib.asciiSpaceTab
 pow : Lib.TabIs Tryz.prog w "internal/strconv.uint64pow10" .u64 Lib.pow10Tab
theorem GW.ext {w w' : World} (h : GW w) (X : Ext w w') : GW w' where
 tab := Joins.tab_stays (P := Tryz.prog) (n := "strings.asciiSpace") (g := 0) (by kernel_rfl) h.tab X (Nat.le_refl _)
 pow := Joins.tab_stays (P := Tryz.prog) (n := "internal/strconv.uint64pow10") (g := 5) (by kernel_rfl) h.pow X (Nat.le_refl _)
theorem lib_fields {a : List UInt8} {w : World} (h1 : a.length < 4294967281 ∧ (a.all fun b => decide (b.toNat < 128)) = true) (hG : GW w) : Calls Tryz.prog 64 [S a].toArray w (Ret fun v w' => RdZ (ZB Z0 w.heap.size w') v 1 eS (Lib.fields a) ∧ Ext w w') := by
 refine (Tryz.strings_Fields ⟨a.toArray⟩ w h1.1 (fun j b hb => ?_) hG.tab).mono ?_
 · have := List.all_eq_true.1 h1.2 b (List.mem_of_getElem? hb)
   simpa using this
 rintro e w' ⟨rfl, rfl⟩
 refine ⟨.inr ⟨w.heap.size, 0, _, (Lib.fields a).map S, 9, (0, 0), rfl, Nat.le_refl _, ?_, fun j u hu => ?_⟩, Ext.alloc _ _⟩
 · unfold ZB
   rw [if_pos (Nat.le_refl _)]
   exact heap_alloc_new w _
 · rw [Nat.zero_add]
   have : (Lib.fields a).flatMap eS = (Lib.fields a).map S := by
    induction Lib.fields a with
    | nil => rfl
    | cons x r ih => rw [List.flatMap_cons, ih]; rfl
   rw [← this]
   exact hu
theorem lib_mul64 {x y : Int} {w : World} (h : (0 ≤ x ∧ x ≤ 18446744073709551615) ∧ 0 ≤ y ∧ y ≤ 18446744073709551615) : Calls Tryz.prog 113 [.int .u64 x, .int .u64 y].toArray w (Ret fun v w' => v = .tuple #[.int .u64 (x * y / 18446744073709551616, x * y % 18446744073709551616).1, .int .u64 (x * y / 18446744073709551616, x * y % 18446744073709551616).2] ∧ Ext w w') := by
 obtain ⟨X, rfl⟩ := Int.eq_ofNat_of_zero_le h.1.1
 obtain ⟨Y, rfl⟩ := Int.eq_ofNat_of_zero_le h.2.1
 refine (Tryz.bits_Mul64 X Y (by omega) (by omega) w).mono ?_
 rintro e w' ⟨rfl, rfl⟩
 refine ⟨?_, Ext.refl _⟩
 simp
theorem lib_lz64 {x : Int} {w : World} (h : 0 ≤ x ∧ x ≤ 18446744073709551615) : Calls Tryz.prog 157 [.int .u64 x].toArray w (Ret fun v w' => v = .int .i64 (64 - (Lib.bitLen x.toNat : Int)) ∧ Ext w w') := by
 refine (Tryz.bits_LeadingZeros64 x w h.1 h.2).mono ?_
 rintro e w' ⟨rfl, rfl⟩
 exact ⟨rfl, Ext.refl _⟩
theorem Ext.grow (w : World) (k : Nat) (os : Array Obj) : Ext w (Go.Sort.grow (w.drewN k) os) :=
 ⟨rfl, rfl, rfl, by simp [Go.Sort.grow, World.drewN], fun i hi => by simp [Go.Sort.grow, World.drewN, Array.getElem?_append, hi]⟩
theorem lib_itoa {n : Int} {w : World} (h : -9223372036854775808 ≤ n ∧ n ≤ 9223372036854775807) (hG : GW w) : Calls Tryz.prog 148 [.int .i64 n].toArray w (Ret fun v w' => v = S (Lib.itoa n) ∧ Ext w w') := by
 refine (Tryz.strconv_Itoa n h.1 h.2 w hG.pow).mono ?_
 rintro e w' ⟨rfl, k, os, rfl⟩
 exact ⟨rfl, Ext.grow w k os⟩
theorem lib_formatInt {n b : Int} {w : World} (h : (-9223372036854775808 ≤ n ∧ n ≤ 9223372036854775807) ∧ b = 10) (hG : GW w) : Calls Tryz.prog 75 [.int .i64 n, .int .i64 b].toArray w (Ret fun v w' => v = S (Lib.itoa n) ∧ Ext w w') := by
 obtain ⟨h, rfl⟩ := h
 refine (Tryz.strconv_FormatInt_10 n h.1 h.2 w hG.pow).mono ?_
 rintro e w' ⟨rfl, k, os, rfl⟩
 exact ⟨rfl, Ext.grow w k os⟩
theorem lib_bitsLen {x : Int} {w : World} (h : 0 ≤ x ∧ x ≤ 18446744073709551615) : Calls Tryz.prog 92 [.int .u64 x].toArray w (Ret fun v w' => v = .int .i64 (Lib.bitLen x.toNat : Int) ∧ Ext w w') := by
 refine (Tryz.bits_Len x w h.1 h.2).mono ?_
 rintro e w' ⟨rfl, rfl⟩
 exact ⟨rfl, Ext.refl _⟩
end Go.Proofs.YtcecjdnkcbfhlaaGreatDoor
