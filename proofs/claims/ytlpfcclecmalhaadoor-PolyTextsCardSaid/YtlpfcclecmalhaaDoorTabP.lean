/- Arguments, opened. -/
import Derived.Test.YtlpfcclecmalhaaDoorTabW
import Derived.Test.YtlpfcclecmalhaaDoorStpQ
import Derived.Test.YtlpfcclecmalhaaDoorPolPlain
import Derived.Deep.Slices
import Derived.Deep.Strs
import Derived.Carry
import Derived.OpenShut
set_option linter.unusedSimpArgs false
set_option linter.unusedVariables false
set_option linter.unusedSectionVars false
namespace Go.Proofs.YtlpfcclecmalhaaDoor
open Go.ChangeShapes Go.WideShapes Go.ChangeAt Go.RowKit Go.Stp Go.Deep Go.ValP
set_option maxRecDepth 100000
theorem okWide_arr {P : Program} {t e : TypeId} {n : Nat} {w : World} {r : Reach} {base : Nat} {v : Value} (ht : P.underlying t = some (.array n e)) (h : Value.okWide P w r base t v) : ∃ cs, v = .agg cs ∧ cs.size = P.cellsOf t := by
  simp only [Value.okWide, ht] at h
  obtain ⟨cs, h1, h2, _⟩ := h
  exact ⟨cs, h1, h2⟩
theorem choose_lt {α : Type} {n : Nat} {p : Nat → α → Prop} (h : ∀ i, i < n → ∃ x, p i x) [Inhabited α] : ∃ q : Nat → α, ∀ i, i < n → p i (q i) := by
  refine ⟨fun i => if hi : i < n then (h i hi).choose else default, fun i hi => ?_⟩
  simp only [hi, dif_pos]
  exact (h i hi).choose_spec
theorem add_at (g o i : Nat) : (⟨g, o, none⟩ : Addr).add i = ⟨g, o + i, none⟩ := by
  unfold Addr.add
  by_cases h0 : i = 0 <;> simp [h0]
theorem laidOut : laidOutB Tryd.prog = true := by kernel_rfl
section
variable {H : Type} {enc : TypeId × Value → H} {w : World} {base b0 : Nat} {sp : Nat → Bool} {held : Bool} {r : Reach} {v : Value} {d : DataW H} {ps : List MemPlace}
theorem celC3 : Tryd.prog.cellsOf 3 = 1 := by kernel_rfl
theorem celC : Tryd.prog.cellsOf 40 = 3 := by kernel_rfl
theorem open_C (hval : Value.okWide Tryd.prog w r b0 40 v) (hd : DataW.Trod enc Tryd.prog w base sp held 40 v d ps) : ∃ x : C, v = .agg #[.int .i64 x.s, .int .i64 x.c, .int .i64 x.r] ∧ (-9223372036854775808 ≤ x.s ∧ x.s ≤ 9223372036854775807) ∧ (-9223372036854775808 ≤ x.c ∧ x.c ≤ 9223372036854775807) ∧ (-9223372036854775808 ≤ x.r ∧ x.r ≤ 9223372036854775807) := by
  obtain ⟨cs, rfl, hsz⟩ := okWide_struct Tryd.underlying40 hval
  obtain ⟨fuel, hf⟩ := hd
  obtain ⟨y0, y1, y2, m, hx, hl, h0, h1, h2⟩ := trod_struct3 Tryd.underlying40 hf
  obtain ⟨l⟩ := cs
  simp only [Value.cells] at hl h0 h1 h2
  rw [celC] at hl
  simp only [celC3] at h0 h1 h2
  match l, hl with
  | [a0, a1, a2], _ =>
    obtain ⟨k0, e0, _, w0⟩ := DataW.trod_int Tryd.underlying3 h0
    obtain ⟨k1, e1, _, w1⟩ := DataW.trod_int Tryd.underlying3 h1
    obtain ⟨k2, e2, _, w2⟩ := DataW.trod_int Tryd.underlying3 h2
    simp at e0 e1 e2
    subst e0 e1 e2
    exact ⟨⟨k0, k1, k2⟩, rfl, bounds_i64 w0, bounds_i64 w1, bounds_i64 w2⟩
theorem celA42 : Tryd.prog.cellsOf 2 = 1 := by kernel_rfl
theorem celA4 : Tryd.prog.cellsOf 45 = 4 := by kernel_rfl
theorem open_A4 (hval : Value.okWide Tryd.prog w r b0 45 v) (hd : DataW.Trod enc Tryd.prog w base sp held 45 v d ps) : ∃ x : A4, v = .agg #[.int .i64 x.a, .int .i64 x.b, .int .i64 x.c, .int .i64 x.d] ∧ (-9223372036854775808 ≤ x.a ∧ x.a ≤ 9223372036854775807) ∧ (-9223372036854775808 ≤ x.b ∧ x.b ≤ 9223372036854775807) ∧ (-9223372036854775808 ≤ x.c ∧ x.c ≤ 9223372036854775807) ∧ (-9223372036854775808 ≤ x.d ∧ x.d ≤ 9223372036854775807) := by
  obtain ⟨cs, rfl, hsz⟩ := okWide_arr Tryd.underlying45 hval
  obtain ⟨fuel, hf⟩ := hd
  obtain ⟨ys, m, _, hx, hl, hy, hh⟩ := DataW.trod_array Tryd.underlying45 hf
  have h0 := hh 0 (by decide)
  have h1 := hh 1 (by decide)
  have h2 := hh 2 (by decide)
  have h3 := hh 3 (by decide)
  obtain ⟨l⟩ := cs
  simp only [Value.cells] at hl h0 h1 h2 h3
  rw [celA4] at hl
  simp only [celA42] at h0 h1 h2 h3
  match ys, hy with
  | [u0, u1, u2, u3], _ =>
  match l, hl with
  | [a0, a1, a2, a3], _ =>
    obtain ⟨k0, e0, _, w0⟩ := DataW.trod_int Tryd.underlying2 h0
    obtain ⟨k1, e1, _, w1⟩ := DataW.trod_int Tryd.underlying2 h1
    obtain ⟨k2, e2, _, w2⟩ := DataW.trod_int Tryd.underlying2 h2
    obtain ⟨k3, e3, _, w3⟩ := DataW.trod_int Tryd.underlying2 h3
    simp at e0 e1 e2 e3
    subst e0 e1 e2 e3
    exact ⟨⟨k0, k1, k2, k3⟩, rfl, bounds_i64 w0, bounds_i64 w1, bounds_i64 w2, bounds_i64 w3⟩
theorem celBL : Tryd.prog.cellsOf 5 = 1 := by kernel_rfl
theorem open_BL (hval : Value.okWide Tryd.prog w r b0 22 v) (hd : DataW.Trod enc Tryd.prog w base sp held 22 v d ps) :
    ∃ xs : List Int, RdZ (hz w) v 1 (eI .u8) xs ∧ (xs.length : Int) ≤ 9223372036854775807 ∧ ∀ x ∈ xs, 0 ≤ x ∧ x ≤ 255 := by
  obtain ⟨a0, len, cap, rfl⟩ := okWide_slice Tryd.underlying22 hval
  obtain ⟨fuel, hf⟩ := hd
  rcases DataW.trod_slice Tryd.underlying22 hf with ⟨hcs, _⟩ | ⟨a, len', cap', elems, rest, n, _, hcs, _, _, hlc, hmx, hlen, hel, _, _⟩
  · simp only [Value.cells, List.cons.injEq, and_true] at hcs
    exact ⟨[], .inl ⟨hcs, rfl⟩, by simp, fun x hx => by cases hx⟩
  · simp only [Value.cells, List.cons.injEq, and_true, Value.slice.injEq] at hcs
    obtain ⟨rfl, rfl, rfl⟩ := hcs
    have hh : w.has Tryd.prog r b0 a 5 cap := by
      have h := hval
      unfold Value.okWide at h
      rw [Tryd.underlying22] at h
      unfold Cell.okWide at h
      rw [Tryd.underlying22] at h
      unfold Cell.ok at h
      rw [Tryd.underlying22] at h
      exact h.2.2
    obtain ⟨_, hspot, row, cells, hshape, _⟩ := hh
    obtain ⟨g, o, spot⟩ := a
    simp only at hspot
    subst hspot
    obtain ⟨cc, e, fz, hb⟩ : ∃ cc e fz, w.heap[g]? = some (.cells cc e fz) := by
      unfold World.shape? at hshape
      cases hg : w.heap[g]? with
      | none => simp [hg] at hshape
      | some ob =>
        cases ob with
        | cells cc e fz => exact ⟨cc, e, fz, rfl⟩
        | _ => simp [hg] at hshape
    have each : ∀ i, i < len → ∃ x : Int, cc.toList[o + i]? = some (.int .u8 x) ∧ (0 ≤ x ∧ x ≤ 255) := by
      intro i hi
      have h1 := hel i hi
      rw [List.getElem?_eq_getElem (by omega), celBL, Option.bind_eq_some_iff] at h1
      obtain ⟨cs', h2, h3⟩ := h1
      obtain ⟨_, hl3, hc3⟩ := World.cells?_some h2
      obtain ⟨x, rfl, _, hn⟩ := DataW.trod_int Tryd.underlying5 h3
      refine ⟨x, ?_, bounds_u8 hn⟩
      have h4 := hc3 0 (by decide)
      rw [add_at, add_at] at h4
      unfold World.cell? at h4
      rw [hb] at h4
      simpa using h4
    obtain ⟨q, hq⟩ := choose_lt each
    refine ⟨(List.range len).map q, .inr ⟨g, o, cap, cc.toList, e, fz, by simp, by simpa using hlc, by simpa [hz] using hb, ?_⟩, ?_, ?_⟩
    · intro j u hu
      have hj : j < len := by
        have := (List.getElem?_eq_some_iff.1 hu).1
        rw [flatMap_len (eI .u8) 1 (fun _ => rfl), List.length_map, List.length_range] at this
        omega
      have e1 : ((List.range len).map q).flatMap (eI .u8) = (List.range len).map fun i => Value.int .u8 (q i) := by
        rw [List.flatMap_map]
        exact List.map_eq_flatMap.symm
      rw [e1, List.getElem?_map, List.getElem?_range hj] at hu
      rw [(hq j hj).1]
      exact hu
    · simp only [List.length_map, List.length_range]
      have : maxLen = 9223372036854775807 := by decide
      omega
    · intro x hx
      obtain ⟨i, hi, rfl⟩ := List.mem_map.1 hx
      exact (hq i (List.mem_range.1 hi)).2
end
end Go.Proofs.YtlpfcclecmalhaaDoor
