/- A slice of values among the arguments. -/
import Derived.Test.YtnmkeanoidadcaaGreatDoorTab
import Derived.Test.YtnmkeanoidadcaaGreatDoorStpP
import Derived.Test.YtnmkeanoidadcaaGreatDoorArgPlain
import Derived.Deep.Slices
import Derived.Carry
set_option linter.unusedSimpArgs false
set_option linter.unusedVariables false
set_option linter.unusedSectionVars false
namespace Go.Proofs.YtnmkeanoidadcaaGreatDoor
open Go.ChangeShapes Go.WideShapes Go.ChangeAt Go.RowKit Go.Stp Go.Deep Go.ValP
set_option maxRecDepth 100000
theorem choose_lt {α : Type} {n : Nat} {p : Nat → α → Prop} (h : ∀ i, i < n → ∃ x, p i x) [Inhabited α] : ∃ q : Nat → α, ∀ i, i < n → p i (q i) := by
  refine ⟨fun i => if hi : i < n then (h i hi).choose else default, fun i hi => ?_⟩
  simp only [hi, dif_pos]
  exact (h i hi).choose_spec
theorem add_at (g o i : Nat) : (⟨g, o, none⟩ : Addr).add i = ⟨g, o + i, none⟩ := by
  unfold Addr.add
  by_cases h0 : i = 0 <;> simp [h0]
theorem laidOut : laidOutB Tryz.prog = true := by kernel_rfl
theorem elem_V {H : Type} {enc : TypeId × Value → H} {w : World} {base : Nat} {sp : Nat → Bool} {held : Bool} {fuel : Nat} {cs : List Value} {x : DataW H × List MemPlace} (h : DataW.trod enc Tryz.prog w base sp held fuel 25 cs = some x) (hl : cs.length = 3) :
    ∃ v : V, cs = vL v ∧ (-9223372036854775808 ≤ v.n ∧ v.n ≤ 9223372036854775807) := by
  obtain ⟨y0, y1, y2, m, hx, hl, h0, h1, h2⟩ := trod_struct3 Tryz.underlying25 h
  simp only [cK, cN, cS] at h0 h1 h2
  match cs, hl with
  | [a0, a1, a2], _ =>
    obtain ⟨k, e0, x0, w0⟩ := DataW.trod_int Tryz.underlying3 h0
    obtain ⟨n, e1, x1, w1⟩ := DataW.trod_int Tryz.underlying2 h1
    obtain ⟨s, e2, x2, w2⟩ := DataW.trod_string Tryz.underlying9 h2
    simp at e0 e1 e2
    subst e0 e1 e2
    exact ⟨⟨k, n, s.data.toList⟩, by simp [vL, S], bounds_i64 w1⟩
theorem open_VL {H : Type} {enc : TypeId × Value → H} {w : World} {base b0 : Nat} {sp : Nat → Bool} {held : Bool} {r : Reach} {v : Value} {d : DataW H} {ps : List MemPlace} (hval : Value.okWide Tryz.prog w r b0 22 v) (hd : DataW.Trod enc Tryz.prog w base sp held 22 v d ps) :
    ∃ xs : List V, RdZ (hz w) v 3 vL xs ∧ ∀ x ∈ xs, -9223372036854775808 ≤ x.n ∧ x.n ≤ 9223372036854775807 := by
  obtain ⟨a0, len, cap, rfl⟩ := okWide_slice Tryz.underlying22 hval
  obtain ⟨fuel, hf⟩ := hd
  rcases DataW.trod_slice Tryz.underlying22 hf with ⟨hcs, _⟩ | ⟨a, len', cap', elems, rest, n, _, hcs, _, _, hlc, _, hlen, hel, _, _⟩
  · simp only [Value.cells, List.cons.injEq, and_true] at hcs
    exact ⟨[], .inl ⟨hcs, rfl⟩, fun x hx => by cases hx⟩
  · simp only [Value.cells, List.cons.injEq, and_true, Value.slice.injEq] at hcs
    obtain ⟨rfl, rfl, rfl⟩ := hcs
    have hh : w.has Tryz.prog r b0 a 25 cap := by
      have h := hval
      unfold Value.okWide at h
      rw [Tryz.underlying22] at h
      unfold Cell.okWide at h
      rw [Tryz.underlying22] at h
      unfold Cell.ok at h
      rw [Tryz.underlying22] at h
      exact h.2.2
    obtain ⟨_, hspot, row, cells, hshape, _⟩ := hh
    obtain ⟨g, o, spot⟩ := a
    simp only at hspot
    subst hspot
    obtain ⟨cc, e, fz, hb⟩ : ∃ cc e fz, w.heap[g]? = some (.cells cc e fz) := by
      unfold World.shape? at hshape
      cases hg : w.heap[g]? with
      | none => simp [hg] at hshape
      | some ob =>
        cases ob with
        | cells cc e fz => exact ⟨cc, e, fz, rfl⟩
        | _ => simp [hg] at hshape
    have each : ∀ i, i < len → ∃ x : V, (∀ j u, (vL x)[j]? = some u → cc.toList[o + (i * 3 + j)]? = some u) ∧ (-9223372036854775808 ≤ x.n ∧ x.n ≤ 9223372036854775807) := by
      intro i hi
      have h1 := hel i hi
      rw [List.getElem?_eq_getElem (by omega), cV, Option.bind_eq_some_iff] at h1
      obtain ⟨cs', h2, h3⟩ := h1
      obtain ⟨_, hl3, hc3⟩ := World.cells?_some h2
      obtain ⟨x, rfl, hn⟩ := elem_V h3 hl3
      refine ⟨x, fun j u hu => ?_, hn⟩
      have hj : j < 3 := (List.getElem?_eq_some_iff.1 hu).1
      have h4 := hc3 j hj
      rw [add_at, add_at, hu] at h4
      rw [Nat.add_assoc] at h4
      unfold World.cell? at h4
      rw [hb] at h4
      simpa using h4
    obtain ⟨q, hq⟩ := choose_lt each
    refine ⟨(List.range len).map q, .inr ⟨g, o, cap, cc.toList, e, fz, by simp, by simpa using hlc, by simpa [hz] using hb, ?_⟩, ?_⟩
    · intro j u hu
      have hln := flatMap_len vL 3 (fun _ => rfl) ((List.range len).map q)
      have hj : j < len * 3 := by
        have := (List.getElem?_eq_some_iff.1 hu).1
        rw [hln, List.length_map, List.length_range] at this
        exact this
      have hp : ((List.range len).map q)[j / 3]? = some (q (j / 3)) := by
        rw [List.getElem?_map, List.getElem?_range (by omega)]
        rfl
      have e := flatMap_get vL 3 (fun _ => rfl) _ (j / 3) (j % 3) _ hp (Nat.mod_lt _ (by decide))
      rw [show j / 3 * 3 + j % 3 = j by omega, hu] at e
      have h9 := (hq (j / 3) (by omega)).1 (j % 3) u e.symm
      rwa [show j / 3 * 3 + j % 3 = j by omega] at h9
    · intro x hx
      obtain ⟨i, hi, rfl⟩ := List.mem_map.1 hx
      exact (hq i (List.mem_range.1 hi)).2
end Go.Proofs.YtnmkeanoidadcaaGreatDoor
