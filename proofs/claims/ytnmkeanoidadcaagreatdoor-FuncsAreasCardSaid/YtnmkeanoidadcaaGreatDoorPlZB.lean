/- Functions that have an answer: the other laws. -/
import Derived.Test.YtnmkeanoidadcaaGreatDoorPlY
set_option linter.unusedSimpArgs false
set_option linter.unusedVariables false
set_option linter.unusedSectionVars false
set_option linter.unusedSimpArgs false
set_option linter.unusedVariables false
set_option maxRecDepth 100000
namespace Go.Sp
open Go.Stp Go.ValP
def K1 : Nat := 1208925819614629174706175
def K2 : Nat := 1208925819614629174706174
def K3 : Nat := 1208925819614629174706173
def K4 : Nat := 1208925819614629174706172
theorem k1 : KK = K1 + 1 := by decide +kernel
theorem k2 : K1 = K2 + 1 := by decide +kernel
theorem k3 : K2 = K3 + 1 := by decide +kernel
theorem k4 : K3 = K4 + 1 := by decide +kernel
theorem u1 {σ ρ : Type} {B : (σ → Option ρ) → σ → Option ρ} {s : σ} : loopF B KK s = B (loopF B K1) s := by rw [k1]; rfl
theorem u2 {σ ρ : Type} {B : (σ → Option ρ) → σ → Option ρ} {s : σ} : loopF B K1 s = B (loopF B K2) s := by rw [k2]; rfl
theorem u3 {σ ρ : Type} {B : (σ → Option ρ) → σ → Option ρ} {s : σ} : loopF B K2 s = B (loopF B K3) s := by rw [k3]; rfl
theorem u4 {σ ρ : Type} {B : (σ → Option ρ) → σ → Option ρ} {s : σ} : loopF B K3 s = B (loopF B K4) s := by rw [k4]; rfl
theorem w01 : IntKind.i64.wrap 1 = 1 ∧ IntKind.i64.wrap 2 = 2 ∧ IntKind.i64.wrap 3 = 3 ∧ IntKind.i64.wrap 4 = 4 := by decide
theorem nums1 {f : Bool} {c : Int} {x a : V} (h : value_ToNum x = some a) : funcs_nums [⟨f, c, [x]⟩] = some (if a.k = 4 then ([], a) else ([a.n], ⟨0, 0, []⟩)) := by
  unfold funcs_nums
  by_cases h4 : a.k = 4 <;> simp [bindv, chk, u1, u2, u3, u4, gel, funcs_single, obind, h, h4, w01]
theorem nums2 {f g : Bool} {c d : Int} {x y a b : V} (h : value_ToNum x = some a) (k : value_ToNum y = some b) : funcs_nums [⟨f, c, [x]⟩, ⟨g, d, [y]⟩] = some (if a.k = 4 then ([], a) else if b.k = 4 then ([], b) else ([a.n, b.n], ⟨0, 0, []⟩)) := by
  unfold funcs_nums
  by_cases h4 : a.k = 4 <;> by_cases k4 : b.k = 4 <;> simp [bindv, chk, u1, u2, u3, u4, gel, funcs_single, obind, h, k, h4, k4, w01]
theorem toText_eq {x : V} {t : List UInt8} (h4 : x.k ≠ 4) (h : value_Show x = some t) (ht : t.length ≤ 64) : value_ToText x = some ⟨2, 0, t⟩ := by
  have : ¬ 64 < (t.length : Int) := by omega
  simp [value_ToText, bindv, h4, obind, h, value_Text_eq, this]
theorem strs1 {f : Bool} {c : Int} {x : V} {t : List UInt8} (h : value_ToText x = some ⟨2, 0, t⟩) : funcs_strs [⟨f, c, [x]⟩] = some ([t], ⟨0, 0, []⟩) := by
  unfold funcs_strs
  simp [bindv, chk, u1, u2, u3, u4, gel, funcs_single, obind, h, w01]
theorem strs2 {f g : Bool} {c d : Int} {x y : V} {t u : List UInt8} (h : value_ToText x = some ⟨2, 0, t⟩) (k : value_ToText y = some ⟨2, 0, u⟩) : funcs_strs [⟨f, c, [x]⟩, ⟨g, d, [y]⟩] = some ([t, u], ⟨0, 0, []⟩) := by
  unfold funcs_strs
  simp [bindv, chk, u1, u2, u3, u4, gel, funcs_single, obind, h, k, w01]
theorem strs3 {f g i : Bool} {c d e : Int} {x y z : V} {t u s : List UInt8} (h : value_ToText x = some ⟨2, 0, t⟩) (k : value_ToText y = some ⟨2, 0, u⟩) (m : value_ToText z = some ⟨2, 0, s⟩) : funcs_strs [⟨f, c, [x]⟩, ⟨g, d, [y]⟩, ⟨i, e, [z]⟩] = some ([t, u, s], ⟨0, 0, []⟩) := by
  unfold funcs_strs
  simp [bindv, chk, u1, u2, u3, u4, gel, funcs_single, obind, h, k, m, w01]
end Go.Sp
