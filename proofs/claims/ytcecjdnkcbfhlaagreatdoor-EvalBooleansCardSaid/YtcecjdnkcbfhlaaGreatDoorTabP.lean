/- Arguments, opened. -/
import Derived.Test.YtcecjdnkcbfhlaaGreatDoorTabW
import Derived.Test.YtcecjdnkcbfhlaaGreatDoorStpQ
import Derived.Test.YtcecjdnkcbfhlaaGreatDoorPolPlain
import Derived.Deep.Slices
import Derived.Deep.Strs
import Derived.Carry
import Derived.OpenShut
set_option linter.unusedSimpArgs false
set_option linter.unusedVariables false
set_option linter.unusedSectionVars false
namespace Go.Proofs.YtcecjdnkcbfhlaaGreatDoor
open Go.ChangeShapes Go.WideShapes Go.ChangeAt Go.RowKit Go.Stp Go.Deep Go.ValP
set_option maxRecDepth 100000
theorem okWide_arr {P : Program} {t e : TypeId} {n : Nat} {w : World} {r : Reach} {base : Nat} {v : Value} (ht : P.underlying t = some (.array n e)) (h : Value.okWide P w r base t v) : ∃ cs, v = .agg cs ∧ cs.size = P.cellsOf t := by
  simp only [Value.okWide, ht] at h
  obtain ⟨cs, h1, h2, _⟩ := h
  exact ⟨cs, h1, h2⟩
theorem choose_lt {α : Type} {n : Nat} {p : Nat → α → Prop} (h : ∀ i, i < n → ∃ x, p i x) [Inhabited α] : ∃ q : Nat → α, ∀ i, i < n → p i (q i) := by
  refine ⟨fun i => if hi : i < n then (h i hi).choose else default, fun i hi => ?_⟩
  simp only [hi, dif_pos]
  exact (h i hi).choose_spec
theorem add_at (g o i : Nat) : (⟨g, o, none⟩ : Addr).add i = ⟨g, o + i, none⟩ := by
  unfold Addr.add
  by_cases h0 : i = 0 <;> simp [h0]
theorem laidOut : laidOutB Tryz.prog = true := by kernel_rfl
section
variable {H : Type} {enc : TypeId × Value → H} {w : World} {base b0 : Nat} {sp : Nat → Bool} {held : Bool} {r : Reach} {v : Value} {d : DataW H} {ps : List MemPlace}
theorem celBoolL : Tryz.prog.cellsOf 4 = 1 := by kernel_rfl
theorem open_BoolL (hval : Value.okWide Tryz.prog w r b0 56 v) (hd : DataW.Trod enc Tryz.prog w base sp held 56 v d ps) :
    ∃ xs : List Bool, RdZ (hz w) v 1 eB xs ∧ (xs.length : Int) ≤ 9223372036854775807 := by
  obtain ⟨a0, len, cap, rfl⟩ := okWide_slice Tryz.underlying56 hval
  obtain ⟨fuel, hf⟩ := hd
  rcases DataW.trod_slice Tryz.underlying56 hf with ⟨hcs, _⟩ | ⟨a, len', cap', elems, rest, n, _, hcs, _, _, hlc, hmx, hlen, hel, _, _⟩
  · simp only [Value.cells, List.cons.injEq, and_true] at hcs
    exact ⟨[], .inl ⟨hcs, rfl⟩, by simp⟩
  · simp only [Value.cells, List.cons.injEq, and_true, Value.slice.injEq] at hcs
    obtain ⟨rfl, rfl, rfl⟩ := hcs
    have hh : w.has Tryz.prog r b0 a 4 cap := by
      have h := hval
      unfold Value.okWide at h
      rw [Tryz.underlying56] at h
      unfold Cell.okWide at h
      rw [Tryz.underlying56] at h
      unfold Cell.ok at h
      rw [Tryz.underlying56] at h
      exact h.2.2
    obtain ⟨_, hspot, row, cells, hshape, _⟩ := hh
    obtain ⟨g, o, spot⟩ := a
    simp only at hspot
    subst hspot
    obtain ⟨cc, e, fz, hb⟩ : ∃ cc e fz, w.heap[g]? = some (.cells cc e fz) := by
      unfold World.shape? at hshape
      cases hg : w.heap[g]? with
      | none => simp [hg] at hshape
      | some ob =>
        cases ob with
        | cells cc e fz => exact ⟨cc, e, fz, rfl⟩
        | _ => simp [hg] at hshape
    have each : ∀ i, i < len → ∃ x : Bool, cc.toList[o + i]? = some (.bool x) := by
      intro i hi
      have h1 := hel i hi
      rw [List.getElem?_eq_getElem (by omega), celBoolL, Option.bind_eq_some_iff] at h1
      obtain ⟨cs', h2, h3⟩ := h1
      obtain ⟨_, hl3, hc3⟩ := World.cells?_some h2
      obtain ⟨x, rfl, _⟩ := DataW.trod_bool Tryz.underlying4 h3
      refine ⟨x, ?_⟩
      have h4 := hc3 0 (by decide)
      rw [add_at, add_at] at h4
      unfold World.cell? at h4
      rw [hb] at h4
      simpa using h4
    obtain ⟨q, hq⟩ := choose_lt each
    refine ⟨(List.range len).map q, .inr ⟨g, o, cap, cc.toList, e, fz, by simp, by simpa using hlc, by simpa [hz] using hb, ?_⟩, ?_⟩
    · intro j u hu
      have hj : j < len := by
        have := (List.getElem?_eq_some_iff.1 hu).1
        rw [flatMap_len eB 1 (fun _ => rfl), List.length_map, List.length_range] at this
        omega
      have e1 : ((List.range len).map q).flatMap eB = (List.range len).map fun i => Value.bool (q i) := by
        rw [List.flatMap_map]
        exact List.map_eq_flatMap.symm
      rw [e1, List.getElem?_map, List.getElem?_range hj] at hu
      rw [hq j hj]
      exact hu
    · simp only [List.length_map, List.length_range]
      have : maxLen = 9223372036854775807 := by decide
      omega
end
end Go.Proofs.YtcecjdnkcbfhlaaGreatDoor
