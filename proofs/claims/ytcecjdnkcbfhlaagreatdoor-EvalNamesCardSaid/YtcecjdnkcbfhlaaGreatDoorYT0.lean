/- Joined texts. -/
import Derived.Test.YtcecjdnkcbfhlaaGreatDoorRows
import Derived.ProofKit
import Derived.OpenShut
import Derived.LaidMore
import Derived.Lay
import Derived.Deep.Strs
import Derived.Deep.DeepWitnessRowRef
import Derived.Deep.Slices
import Derived.Carry
import Derived.Lib.LaidTab
import Derived.Lib.LaidU8
import Derived.Test.YtcecjdnkcbfhlaaGreatDoorYL0
import Derived.Test.YtcecjdnkcbfhlaaGreatDoorYLibC
set_option linter.unusedSimpArgs false
set_option linter.unusedVariables false
set_option linter.unusedSectionVars false
section
namespace Go.Proofs.YtcecjdnkcbfhlaaGreatDoor
open Go.ChangeShapes Go.WideShapes Go.ChangeAt Go.RowKit Go.Stp Go.Deep
open Go.ChangeMaps (open_string shut_string)
noncomputable def world (os : Os) : World := World.laidAll Tryz.prog os Rows.evalOriginsRow.laid
set_option maxRecDepth 100000
theorem world_met (os : Os) (args : Array Value) : laidMet Tryz.prog Rows.evalOriginsRow.laid ((world os).forCall (fun _ _ => 0) ⟨#[], args, []⟩).memory :=
 laidMet_laidAll _ (by kernel_rfl) (by kernel_rfl)
theorem world_vars (os : Os) (args : Array Value) : ((world os).forCall (fun _ _ => 0) ⟨#[], args, []⟩).variablesRefB Tryz.checked.prog = true := by kernel_rfl
theorem world_rest (os : Os) (args : Array Value) : (((world os).forCall (fun _ _ => 0) ⟨#[], args, []⟩).heap.toList.drop Tryz.checked.prog.globals.size).take ((begin Tryz.checked.prog (fun _ _ => 0) default).world.heap.size - Tryz.checked.prog.globals.size) =
 (begin Tryz.checked.prog (fun _ _ => 0) default).world.heap.toList.drop Tryz.checked.prog.globals.size := by kernel_rfl
end Go.Proofs.YtcecjdnkcbfhlaaGreatDoor
end
section
namespace Go.Proofs.YtcecjdnkcbfhlaaGreatDoor
open Go.ChangeShapes Go.WideShapes Go.ChangeAt Go.RowKit Go.Stp Go.Deep
open Go.ChangeMaps (open_string shut_string)
set_option maxRecDepth 100000
theorem cV : Tryz.prog.cellsOf 26 = 3 := by kernel_rfl
theorem cK : Tryz.prog.cellsOf 3 = 1 := by kernel_rfl
theorem cN : Tryz.prog.cellsOf 2 = 1 := by kernel_rfl
theorem cS : Tryz.prog.cellsOf 9 = 1 := by kernel_rfl
theorem open_V {H : Type} {enc : TypeId × Value → H} {w : World} {base b0 : Nat} {sp : Nat → Bool} {held : Bool} {r : Reach} {v : Value} {d : DataW H} {ps : List MemPlace} (hval : Value.okWide Tryz.prog w r b0 26 v) (hd : DataW.Trod enc Tryz.prog w base sp held 26 v d ps) :
 ∃ (k n : Int) (s : List UInt8), v = .agg #[.int .i64 k, .int .i64 n, S s] ∧ d = .agg [.lit (.int .i64 k), .lit (.int .i64 n), .lit (.string s)] ∧ ps = [] ∧ (Lit.int .i64 k).wf = true ∧ (Lit.int .i64 n).wf = true ∧ s.length ≤ maxLen := by
 obtain ⟨cs, rfl, hsz⟩ := okWide_struct Tryz.underlying26 hval
 obtain ⟨fuel, hf⟩ := hd
 obtain ⟨y0, y1, y2, m, hx, hl, h0, h1, h2⟩ := trod_struct3 Tryz.underlying26 hf
 obtain ⟨l⟩ := cs
 simp only [Value.cells] at hl h0 h1 h2
 rw [cV] at hl
 simp only [cK, cN, cS] at h0 h1 h2
 match l, hl with
 | [a0, a1, a2], _ =>
  obtain ⟨k, e0, x0, w0⟩ := DataW.trod_int Tryz.underlying3 h0
  obtain ⟨n, e1, x1, w1⟩ := DataW.trod_int Tryz.underlying2 h1
  obtain ⟨s, e2, x2, w2⟩ := DataW.trod_string Tryz.underlying9 h2
  simp at e0 e1 e2
  subst e0 e1 e2
  rw [x0, x1, x2] at hx
  simp only [Prod.mk.injEq] at hx
  obtain ⟨rfl, rfl⟩ := hx
  exact ⟨k, n, s.data.toList, by simp, rfl, rfl, w0, w1, (by rw [Array.length_toList]; exact w2 : s.data.toList.length ≤ maxLen)⟩
theorem shut_V {H : Type} {enc : TypeId × Value → H} {w : World} {base : Nat} {sp : Nat → Bool} {held : Bool} {k n : Int} {s : List UInt8} (wk : (Lit.int .i64 k).wf = true) (wn : (Lit.int .i64 n).wf = true) (ws : s.length ≤ maxLen) :
 DataW.Trod enc Tryz.prog w base sp held 26 (.agg #[.int .i64 k, .int .i64 n, S s]) (.agg [.lit (.int .i64 k), .lit (.int .i64 n), .lit (.string s)]) [] := by
 have h2 : DataW.trod enc Tryz.prog w base sp held 1 9 [S s] = some (.lit (.string s), []) := by
  simp [DataW.trod, Tryz.underlying9, ByteArray.size, ws]
 have := trod_struct3_mk (enc := enc) (w := w) (base := base) (spare := sp) (held := held) (n := 1) (cs := [.int .i64 k, .int .i64 n, S s]) Tryz.underlying26 (by simp [cV]) (by simpa [cK] using trod_int_mk 0 Tryz.underlying3 wk) (by simpa [cN] using trod_int_mk 0 Tryz.underlying2 wn) (by simpa [cS] using h2)
 exact ⟨2, by simpa [Value.cells] using this⟩
end Go.Proofs.YtcecjdnkcbfhlaaGreatDoor
end
section
namespace Go.Proofs.YtcecjdnkcbfhlaaGreatDoor
open Go.ChangeShapes Go.WideShapes Go.ChangeAt Go.RowKit Go.Stp Go.Deep Go.ValP
set_option maxRecDepth 100000
theorem choose_lt {α : Type} {n : Nat} {p : Nat → α → Prop} (h : ∀ i, i < n → ∃ x, p i x) [Inhabited α] : ∃ q : Nat → α, ∀ i, i < n → p i (q i) := by
 refine ⟨fun i => if hi : i < n then (h i hi).choose else default, fun i hi => ?_⟩
 simp only [hi, dif_pos]
 exact (h i hi).choose_spec
theorem add_at (g o i : Nat) : (⟨g, o, none⟩ : Addr).add i = ⟨g, o + i, none⟩ := by
 unfold Addr.add
 by_cases h0 : i = 0 <;> simp [h0]
theorem laidOut : laidOutB Tryz.prog = true := by kernel_rfl
theorem elem_V {H : Type} {enc : TypeId × Value → H} {w : World} {base : Nat} {sp : Nat → Bool} {held : Bool} {fuel : Nat} {cs : List Value} {x : DataW H × List MemPlace} (h : DataW.trod enc Tryz.prog w base sp held fuel 26 cs = some x) (hl : cs.length = 3) :
 ∃ v : V, cs = vL v ∧ (-9223372036854775808 ≤ v.n ∧ v.n ≤ 9223372036854775807) := by
 obtain ⟨y0, y1, y2, m, hx, hl, h0, h1, h2⟩ := trod_struct3 Tryz.underlying26 h
 simp only [cK, cN, cS] at h0 h1 h2
 match cs, hl with
 | [a0, a1, a2], _ =>
  obtain ⟨k, e0, x0, w0⟩ := DataW.trod_int Tryz.underlying3 h0
  obtain ⟨n, e1, x1, w1⟩ := DataW.trod_int Tryz.underlying2 h1
  obtain ⟨s, e2, x2, w2⟩ := DataW.trod_string Tryz.underlying9 h2
  simp at e0 e1 e2
  subst e0 e1 e2
  exact ⟨⟨k, n, s.data.toList⟩, by simp [vL, S], bounds_i64 w1⟩
theorem open_VL {H : Type} {enc : TypeId × Value → H} {w : World} {base b0 : Nat} {sp : Nat → Bool} {held : Bool} {r : Reach} {v : Value} {d : DataW H} {ps : List MemPlace} (hval : Value.okWide Tryz.prog w r b0 63 v) (hd : DataW.Trod enc Tryz.prog w base sp held 63 v d ps) :
 ∃ xs : List V, RdZ (hz w) v 3 vL xs ∧ ∀ x ∈ xs, -9223372036854775808 ≤ x.n ∧ x.n ≤ 9223372036854775807 := by
 obtain ⟨a0, len, cap, rfl⟩ := okWide_slice Tryz.underlying63 hval
 obtain ⟨fuel, hf⟩ := hd
 rcases DataW.trod_slice Tryz.underlying63 hf with ⟨hcs, _⟩ | ⟨a, len', cap', elems, rest, n, _, hcs, _, _, hlc, _, hlen, hel, _, _⟩
 · simp only [Value.cells, List.cons.injEq, and_true] at hcs
   exact ⟨[], .inl ⟨hcs, rfl⟩, fun x hx => by cases hx⟩
 · simp only [Value.cells, List.cons.injEq, and_true, Value.slice.injEq] at hcs
   obtain ⟨rfl, rfl, rfl⟩ := hcs
   have hh : w.has Tryz.prog r b0 a 26 cap := by
    have h := hval
    unfold Value.okWide at h
    rw [Tryz.underlying63] at h
    unfold Cell.okWide at h
    rw [Tryz.underlying63] at h
    unfold Cell.ok at h
    rw [Tryz.underlying63] at h
    exact h.2.2
   obtain ⟨_, hspot, row, cells, hshape, _⟩ := hh
   obtain ⟨g, o, spot⟩ := a
   simp only at hspot
   subst hspot
   obtain ⟨cc, e, fz, hb⟩ : ∃ cc e fz, w.heap[g]? = some (.cells cc e fz) := by
    unfold World.shape? at hshape
    cases hg : w.heap[g]? with
    | none => simp [hg] at hshape
    | some ob =>
     cases ob with
     | cells cc e fz => exact ⟨cc, e, fz, rfl⟩
     | _ => simp [hg] at hshape
   have each : ∀ i, i < len → ∃ x : V, (∀ j u, (vL x)[j]? = some u → cc.toList[o + (i * 3 + j)]? = some u) ∧ (-9223372036854775808 ≤ x.n ∧ x.n ≤ 9223372036854775807) := by
    intro i hi
    have h1 := hel i hi
    rw [List.getElem?_eq_getElem (by omega), cV, Option.bind_eq_some_iff] at h1
    obtain ⟨cs', h2, h3⟩ := h1
    obtain ⟨_, hl3, hc3⟩ := World.cells?_some h2
    obtain ⟨x, rfl, hn⟩ := elem_V h3 hl3
    refine ⟨x, fun j u hu => ?_, hn⟩
    have hj : j < 3 := (List.getElem?_eq_some_iff.1 hu).1
    have h4 := hc3 j hj
    rw [add_at, add_at, hu] at h4
    rw [Nat.add_assoc] at h4
    unfold World.cell? at h4
    rw [hb] at h4
    simpa using h4
   obtain ⟨q, hq⟩ := choose_lt each
   refine ⟨(List.range len).map q, .inr ⟨g, o, cap, cc.toList, e, fz, by simp, by simpa using hlc, by simpa [hz] using hb, ?_⟩, ?_⟩
   · intro j u hu
     have hln := flatMap_len vL 3 (fun _ => rfl) ((List.range len).map q)
     have hj : j < len * 3 := by
      have := (List.getElem?_eq_some_iff.1 hu).1
      rw [hln, List.length_map, List.length_range] at this
      exact this
     have hp : ((List.range len).map q)[j / 3]? = some (q (j / 3)) := by
      rw [List.getElem?_map, List.getElem?_range (by omega)]
      rfl
     have e := flatMap_get vL 3 (fun _ => rfl) _ (j / 3) (j % 3) _ hp (Nat.mod_lt _ (by decide))
     rw [show j / 3 * 3 + j % 3 = j by omega, hu] at e
     have h9 := (hq (j / 3) (by omega)).1 (j % 3) u e.symm
     rwa [show j / 3 * 3 + j % 3 = j by omega] at h9
   · intro x hx
     obtain ⟨i, hi, rfl⟩ := List.mem_map.1 hx
     exact (hq i (List.mem_range.1 hi)).2
section
variable {H : Type} {enc : TypeId × Value → H} {w : World} {base b0 : Nat} {sp : Nat → Bool} {held : Bool} {r : Reach} {v : Value} {d : DataW H} {ps : List MemPlace}
theorem celSeed : Tryz.prog.cellsOf 5 = 1 := by kernel_rfl
theorem open_Seed (hval : Value.okWide Tryz.prog w r b0 23 v) (hd : DataW.Trod enc Tryz.prog w base sp held 23 v d ps) :
 ∃ xs : List Int, RdZ (hz w) v 1 (eI .u8) xs ∧ (xs.length : Int) ≤ 9223372036854775807 ∧ ∀ x ∈ xs, 0 ≤ x ∧ x ≤ 255 := by
 obtain ⟨a0, len, cap, rfl⟩ := okWide_slice Tryz.underlying23 hval
 obtain ⟨fuel, hf⟩ := hd
 rcases DataW.trod_slice Tryz.underlying23 hf with ⟨hcs, _⟩ | ⟨a, len', cap', elems, rest, n, _, hcs, _, _, hlc, hmx, hlen, hel, _, _⟩
 · simp only [Value.cells, List.cons.injEq, and_true] at hcs
   exact ⟨[], .inl ⟨hcs, rfl⟩, by simp, fun x hx => by cases hx⟩
 · simp only [Value.cells, List.cons.injEq, and_true, Value.slice.injEq] at hcs
   obtain ⟨rfl, rfl, rfl⟩ := hcs
   have hh : w.has Tryz.prog r b0 a 5 cap := by
    have h := hval
    unfold Value.okWide at h
    rw [Tryz.underlying23] at h
    unfold Cell.okWide at h
    rw [Tryz.underlying23] at h
    unfold Cell.ok at h
    rw [Tryz.underlying23] at h
    exact h.2.2
   obtain ⟨_, hspot, row, cells, hshape, _⟩ := hh
   obtain ⟨g, o, spot⟩ := a
   simp only at hspot
   subst hspot
   obtain ⟨cc, e, fz, hb⟩ : ∃ cc e fz, w.heap[g]? = some (.cells cc e fz) := by
    unfold World.shape? at hshape
    cases hg : w.heap[g]? with
    | none => simp [hg] at hshape
    | some ob =>
     cases ob with
     | cells cc e fz => exact ⟨cc, e, fz, rfl⟩
     | _ => simp [hg] at hshape
   have each : ∀ i, i < len → ∃ x : Int, cc.toList[o + i]? = some (.int .u8 x) ∧ (0 ≤ x ∧ x ≤ 255) := by
    intro i hi
    have h1 := hel i hi
    rw [List.getElem?_eq_getElem (by omega), celSeed, Option.bind_eq_some_iff] at h1
    obtain ⟨cs', h2, h3⟩ := h1
    obtain ⟨_, hl3, hc3⟩ := World.cells?_some h2
    obtain ⟨x, rfl, _, hn⟩ := DataW.trod_int Tryz.underlying5 h3
    refine ⟨x, ?_, bounds_u8 hn⟩
    have h4 := hc3 0 (by decide)
    rw [add_at, add_at] at h4
    unfold World.cell? at h4
    rw [hb] at h4
    simpa using h4
   obtain ⟨q, hq⟩ := choose_lt each
   refine ⟨(List.range len).map q, .inr ⟨g, o, cap, cc.toList, e, fz, by simp, by simpa using hlc, by simpa [hz] using hb, ?_⟩, ?_, ?_⟩
   · intro j u hu
     have hj : j < len := by
      have := (List.getElem?_eq_some_iff.1 hu).1
      rw [flatMap_len (eI .u8) 1 (fun _ => rfl), List.length_map, List.length_range] at this
      omega
     have e1 : ((List.range len).map q).flatMap (eI .u8) = (List.range len).map fun i => Value.int .u8 (q i) := by
      rw [List.flatMap_map]
      exact List.map_eq_flatMap.symm
     rw [e1, List.getElem?_map, List.getElem?_range hj] at hu
     rw [(hq j hj).1]
     exact hu
   · simp only [List.length_map, List.length_range]
     have : maxLen = 9223372036854775807 := by decide
     omega
   · intro x hx
     obtain ⟨i, hi, rfl⟩ := List.mem_map.1 hx
     exact (hq i (List.mem_range.1 hi)).2
end
end Go.Proofs.YtcecjdnkcbfhlaaGreatDoor
end
section
namespace Go.Proofs.YtcecjdnkcbfhlaaGreatDoor
open Go.Lib Go.RowKit
set_option maxRecDepth 100000
theorem gTab : Tryz.prog.globalNamed "strings.asciiSpace" = some 0 := by kernel_rfl
theorem gTabType : (Tryz.prog.globals[0]?).map (·.type) = some 152 := by kernel_rfl
theorem cellsE : Tryz.prog.cellsOf 5 = 1 := by kernel_rfl
theorem cellsT : Tryz.prog.cellsOf 152 = 256 := by kernel_rfl
theorem tab_of_reads {P : Program} {W : World} {name : String} {k : IntKind} {zs : List Int} {g : Nat} {t e : TypeId} {n : Nat}
 (hg : P.globalNamed name = some g) (hty : (P.globals[g]?).map (·.type) = some t) (ht : P.underlying t = some (.array n e)) (he : P.underlying e = some (.int k)) (hce : P.cellsOf e = 1) (hct : P.cellsOf t = n)
 (h : VarReads P W name (tabData k zs)) : TabIs P W name k zs := by
 obtain ⟨g', t', cs, fuel, p, hg', ht', hvar, hd⟩ := h
 obtain rfl := Option.some.inj (hg.symm.trans hg')
 obtain rfl := Option.some.inj (hty.symm.trans ht')
 unfold TabIs
 rw [hvar, ← cells_of_tab ht he hce hct hd]
theorem tab_laid {W : World} (hL : laidMetH Tryz.prog Rows.evalOriginsRow.laid W) : TabIs Tryz.prog W "strings.asciiSpace" .u8 Lib.asciiSpaceTab :=
 tab_of_reads gTab gTabType Tryz.underlying152 Tryz.underlying5 cellsE cellsT (Lib.laidMet.reads hL (.tail _ (.tail _ (.head _))))
end Go.Proofs.YtcecjdnkcbfhlaaGreatDoor
end
