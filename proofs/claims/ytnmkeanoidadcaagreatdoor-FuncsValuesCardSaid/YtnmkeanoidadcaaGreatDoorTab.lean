/- A value among the arguments. -/
import Derived.Test.YtnmkeanoidadcaaGreatDoorTabW
set_option linter.unusedSimpArgs false
set_option linter.unusedVariables false
set_option linter.unusedSectionVars false
namespace Go.Proofs.YtnmkeanoidadcaaGreatDoor
open Go.ChangeShapes Go.WideShapes Go.ChangeAt Go.RowKit Go.Stp Go.Deep
open Go.ChangeMaps (open_string shut_string)
set_option maxRecDepth 100000
theorem cV : Tryz.prog.cellsOf 25 = 3 := by kernel_rfl
theorem cK : Tryz.prog.cellsOf 3 = 1 := by kernel_rfl
theorem cN : Tryz.prog.cellsOf 2 = 1 := by kernel_rfl
theorem cS : Tryz.prog.cellsOf 9 = 1 := by kernel_rfl
theorem open_V {H : Type} {enc : TypeId × Value → H} {w : World} {base b0 : Nat} {sp : Nat → Bool} {held : Bool} {r : Reach} {v : Value} {d : DataW H} {ps : List MemPlace} (hval : Value.okWide Tryz.prog w r b0 25 v) (hd : DataW.Trod enc Tryz.prog w base sp held 25 v d ps) :
    ∃ (k n : Int) (s : List UInt8), v = .agg #[.int .i64 k, .int .i64 n, S s] ∧ d = .agg [.lit (.int .i64 k), .lit (.int .i64 n), .lit (.string s)] ∧ ps = [] ∧ (Lit.int .i64 k).wf = true ∧ (Lit.int .i64 n).wf = true ∧ s.length ≤ maxLen := by
  obtain ⟨cs, rfl, hsz⟩ := okWide_struct Tryz.underlying25 hval
  obtain ⟨fuel, hf⟩ := hd
  obtain ⟨y0, y1, y2, m, hx, hl, h0, h1, h2⟩ := trod_struct3 Tryz.underlying25 hf
  obtain ⟨l⟩ := cs
  simp only [Value.cells] at hl h0 h1 h2
  rw [cV] at hl
  simp only [cK, cN, cS] at h0 h1 h2
  match l, hl with
  | [a0, a1, a2], _ =>
    obtain ⟨k, e0, x0, w0⟩ := DataW.trod_int Tryz.underlying3 h0
    obtain ⟨n, e1, x1, w1⟩ := DataW.trod_int Tryz.underlying2 h1
    obtain ⟨s, e2, x2, w2⟩ := DataW.trod_string Tryz.underlying9 h2
    simp at e0 e1 e2
    subst e0 e1 e2
    rw [x0, x1, x2] at hx
    simp only [Prod.mk.injEq] at hx
    obtain ⟨rfl, rfl⟩ := hx
    exact ⟨k, n, s.data.toList, by simp, rfl, rfl, w0, w1, (by rw [Array.length_toList]; exact w2 : s.data.toList.length ≤ maxLen)⟩
theorem shut_V {H : Type} {enc : TypeId × Value → H} {w : World} {base : Nat} {sp : Nat → Bool} {held : Bool} {k n : Int} {s : List UInt8} (wk : (Lit.int .i64 k).wf = true) (wn : (Lit.int .i64 n).wf = true) (ws : s.length ≤ maxLen) :
    DataW.Trod enc Tryz.prog w base sp held 25 (.agg #[.int .i64 k, .int .i64 n, S s]) (.agg [.lit (.int .i64 k), .lit (.int .i64 n), .lit (.string s)]) [] := by
  have h2 : DataW.trod enc Tryz.prog w base sp held 1 9 [S s] = some (.lit (.string s), []) := by
    simp [DataW.trod, Tryz.underlying9, ByteArray.size, ws]
  have := trod_struct3_mk (enc := enc) (w := w) (base := base) (spare := sp) (held := held) (n := 1) (cs := [.int .i64 k, .int .i64 n, S s]) Tryz.underlying25 (by simp [cV]) (by simpa [cK] using trod_int_mk 0 Tryz.underlying3 wk) (by simpa [cN] using trod_int_mk 0 Tryz.underlying2 wn) (by simpa [cS] using h2)
  exact ⟨2, by simpa [Value.cells] using this⟩
end Go.Proofs.YtnmkeanoidadcaaGreatDoor
