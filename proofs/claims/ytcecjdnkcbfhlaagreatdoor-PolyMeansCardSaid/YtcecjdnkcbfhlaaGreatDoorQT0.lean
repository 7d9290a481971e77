/- Joined texts. -/
import Derived.Test.YtcecjdnkcbfhlaaGreatDoorRows
import Derived.ProofKit
import Derived.OpenShut
import Derived.LaidMore
import Derived.Lay
import Derived.Deep.Strs
import Derived.Deep.DeepWitnessRowRef
import Derived.Deep.Slices
import Derived.Carry
import Derived.Lib.LaidTab
import Derived.Lib.LaidU8
import Derived.Lib.ItoaNum
import Derived.Test.YtcecjdnkcbfhlaaGreatDoorQL0
import Derived.Test.YtcecjdnkcbfhlaaGreatDoorQpLibC
set_option linter.unusedSimpArgs false
set_option linter.unusedVariables false
set_option linter.unusedSectionVars false
section
namespace Go.Proofs.YtcecjdnkcbfhlaaGreatDoor
open Go.ChangeShapes Go.WideShapes Go.ChangeAt Go.RowKit Go.Stp Go.Deep
open Go.ChangeMaps (open_string shut_string)
noncomputable def world (os : Os) : World := World.laidAll Tryz.prog os Rows.polyMeansRow.laid
set_option maxRecDepth 100000
theorem world_met (os : Os) (args : Array Value) : laidMet Tryz.prog Rows.polyMeansRow.laid ((world os).forCall (fun _ _ => 0) ⟨#[], args, []⟩).memory :=
 laidMet_laidAll _ (by kernel_rfl) (by kernel_rfl)
theorem world_vars (os : Os) (args : Array Value) : ((world os).forCall (fun _ _ => 0) ⟨#[], args, []⟩).variablesRefB Tryz.checked.prog = true := by kernel_rfl
theorem world_rest (os : Os) (args : Array Value) : (((world os).forCall (fun _ _ => 0) ⟨#[], args, []⟩).heap.toList.drop Tryz.checked.prog.globals.size).take ((begin Tryz.checked.prog (fun _ _ => 0) default).world.heap.size - Tryz.checked.prog.globals.size) =
 (begin Tryz.checked.prog (fun _ _ => 0) default).world.heap.toList.drop Tryz.checked.prog.globals.size := by kernel_rfl
end Go.Proofs.YtcecjdnkcbfhlaaGreatDoor
end
section
namespace Go.Proofs.YtcecjdnkcbfhlaaGreatDoor
open Go.ChangeShapes Go.WideShapes Go.ChangeAt Go.RowKit Go.Stp Go.Deep Go.ValP
set_option maxRecDepth 100000
theorem choose_lt {α : Type} {n : Nat} {p : Nat → α → Prop} (h : ∀ i, i < n → ∃ x, p i x) [Inhabited α] : ∃ q : Nat → α, ∀ i, i < n → p i (q i) := by
 refine ⟨fun i => if hi : i < n then (h i hi).choose else default, fun i hi => ?_⟩
 simp only [hi, dif_pos]
 exact (h i hi).choose_spec
theorem add_at (g o i : Nat) : (⟨g, o, none⟩ : Addr).add i = ⟨g, o + i, none⟩ := by
 unfold Addr.add
 by_cases h0 : i = 0 <;> simp [h0]
theorem laidOut : laidOutB Tryz.prog = true := by kernel_rfl
section
variable {H : Type} {enc : TypeId × Value → H} {w : World} {base b0 : Nat} {sp : Nat → Bool} {held : Bool} {r : Reach} {v : Value} {d : DataW H} {ps : List MemPlace}
theorem celSeed : Tryz.prog.cellsOf 5 = 1 := by kernel_rfl
theorem open_Seed (hval : Value.okWide Tryz.prog w r b0 23 v) (hd : DataW.Trod enc Tryz.prog w base sp held 23 v d ps) :
 ∃ xs : List Int, RdZ (hz w) v 1 (eI .u8) xs ∧ (xs.length : Int) ≤ 9223372036854775807 ∧ ∀ x ∈ xs, 0 ≤ x ∧ x ≤ 255 := by
 obtain ⟨a0, len, cap, rfl⟩ := okWide_slice Tryz.underlying23 hval
 obtain ⟨fuel, hf⟩ := hd
 rcases DataW.trod_slice Tryz.underlying23 hf with ⟨hcs, _⟩ | ⟨a, len', cap', elems, rest, n, _, hcs, _, _, hlc, hmx, hlen, hel, _, _⟩
 · simp only [Value.cells, List.cons.injEq, and_true] at hcs
   exact ⟨[], .inl ⟨hcs, rfl⟩, by simp, fun x hx => by cases hx⟩
 · simp only [Value.cells, List.cons.injEq, and_true, Value.slice.injEq] at hcs
   obtain ⟨rfl, rfl, rfl⟩ := hcs
   have hh : w.has Tryz.prog r b0 a 5 cap := by
    have h := hval
    unfold Value.okWide at h
    rw [Tryz.underlying23] at h
    unfold Cell.okWide at h
    rw [Tryz.underlying23] at h
    unfold Cell.ok at h
    rw [Tryz.underlying23] at h
    exact h.2.2
   obtain ⟨_, hspot, row, cells, hshape, _⟩ := hh
   obtain ⟨g, o, spot⟩ := a
   simp only at hspot
   subst hspot
   obtain ⟨cc, e, fz, hb⟩ : ∃ cc e fz, w.heap[g]? = some (.cells cc e fz) := by
    unfold World.shape? at hshape
    cases hg : w.heap[g]? with
    | none => simp [hg] at hshape
    | some ob =>
     cases ob with
     | cells cc e fz => exact ⟨cc, e, fz, rfl⟩
     | _ => simp [hg] at hshape
   have each : ∀ i, i < len → ∃ x : Int, cc.toList[o + i]? = some (.int .u8 x) ∧ (0 ≤ x ∧ x ≤ 255) := by
    intro i hi
    have h1 := hel i hi
    rw [List.getElem?_eq_getElem (by omega), celSeed, Option.bind_eq_some_iff] at h1
    obtain ⟨cs', h2, h3⟩ := h1
    obtain ⟨_, hl3, hc3⟩ := World.cells?_some h2
    obtain ⟨x, rfl, _, hn⟩ := DataW.trod_int Tryz.underlying5 h3
    refine ⟨x, ?_, bounds_u8 hn⟩
    have h4 := hc3 0 (by decide)
    rw [add_at, add_at] at h4
    unfold World.cell? at h4
    rw [hb] at h4
    simpa using h4
   obtain ⟨q, hq⟩ := choose_lt each
   refine ⟨(List.range len).map q, .inr ⟨g, o, cap, cc.toList, e, fz, by simp, by simpa using hlc, by simpa [hz] using hb, ?_⟩, ?_, ?_⟩
   · intro j u hu
     have hj : j < len := by
      have := (List.getElem?_eq_some_iff.1 hu).1
      rw [flatMap_len (eI .u8) 1 (fun _ => rfl), List.length_map, List.length_range] at this
      omega
     have e1 : ((List.range len).map q).flatMap (eI .u8) = (List.range len).map fun i => Value.int .u8 (q i) := by
      rw [List.flatMap_map]
      exact List.map_eq_flatMap.symm
     rw [e1, List.getElem?_map, List.getElem?_range hj] at hu
     rw [(hq j hj).1]
     exact hu
   · simp only [List.length_map, List.length_range]
     have : maxLen = 9223372036854775807 := by decide
     omega
   · intro x hx
     obtain ⟨i, hi, rfl⟩ := List.mem_map.1 hx
     exact (hq i (List.mem_range.1 hi)).2
theorem celBL : Tryz.prog.cellsOf 5 = 1 := by kernel_rfl
theorem open_BL (hval : Value.okWide Tryz.prog w r b0 22 v) (hd : DataW.Trod enc Tryz.prog w base sp held 22 v d ps) :
 ∃ xs : List Int, RdZ (hz w) v 1 (eI .u8) xs ∧ (xs.length : Int) ≤ 9223372036854775807 ∧ ∀ x ∈ xs, 0 ≤ x ∧ x ≤ 255 := by
 obtain ⟨a0, len, cap, rfl⟩ := okWide_slice Tryz.underlying22 hval
 obtain ⟨fuel, hf⟩ := hd
 rcases DataW.trod_slice Tryz.underlying22 hf with ⟨hcs, _⟩ | ⟨a, len', cap', elems, rest, n, _, hcs, _, _, hlc, hmx, hlen, hel, _, _⟩
 · simp only [Value.cells, List.cons.injEq, and_true] at hcs
   exact ⟨[], .inl ⟨hcs, rfl⟩, by simp, fun x hx => by cases hx⟩
 · simp only [Value.cells, List.cons.injEq, and_true, Value.slice.injEq] at hcs
   obtain ⟨rfl, rfl, rfl⟩ := hcs
   have hh : w.has Tryz.prog r b0 a 5 cap := by
    have h := hval
    unfold Value.okWide at h
    rw [Tryz.underlying22] at h
    unfold Cell.okWide at h
    rw [Tryz.underlying22] at h
    unfold Cell.ok at h
    rw [Tryz.underlying22] at h
    exact h.2.2
   obtain ⟨_, hspot, row, cells, hshape, _⟩ := hh
   obtain ⟨g, o, spot⟩ := a
   simp only at hspot
   subst hspot
   obtain ⟨cc, e, fz, hb⟩ : ∃ cc e fz, w.heap[g]? = some (.cells cc e fz) := by
    unfold World.shape? at hshape
    cases hg : w.heap[g]? with
    | none => simp [hg] at hshape
    | some ob =>
     cases ob with
     | cells cc e fz => exact ⟨cc, e, fz, rfl⟩
     | _ => simp [hg] at hshape
   have each : ∀ i, i < len → ∃ x : Int, cc.toList[o + i]? = some (.int .u8 x) ∧ (0 ≤ x ∧ x ≤ 255) := by
    intro i hi
    have h1 := hel i hi
    rw [List.getElem?_eq_getElem (by omega), celBL, Option.bind_eq_some_iff] at h1
    obtain ⟨cs', h2, h3⟩ := h1
    obtain ⟨_, hl3, hc3⟩ := World.cells?_some h2
    obtain ⟨x, rfl, _, hn⟩ := DataW.trod_int Tryz.underlying5 h3
    refine ⟨x, ?_, bounds_u8 hn⟩
    have h4 := hc3 0 (by decide)
    rw [add_at, add_at] at h4
    unfold World.cell? at h4
    rw [hb] at h4
    simpa using h4
   obtain ⟨q, hq⟩ := choose_lt each
   refine ⟨(List.range len).map q, .inr ⟨g, o, cap, cc.toList, e, fz, by simp, by simpa using hlc, by simpa [hz] using hb, ?_⟩, ?_, ?_⟩
   · intro j u hu
     have hj : j < len := by
      have := (List.getElem?_eq_some_iff.1 hu).1
      rw [flatMap_len (eI .u8) 1 (fun _ => rfl), List.length_map, List.length_range] at this
      omega
     have e1 : ((List.range len).map q).flatMap (eI .u8) = (List.range len).map fun i => Value.int .u8 (q i) := by
      rw [List.flatMap_map]
      exact List.map_eq_flatMap.symm
     rw [e1, List.getElem?_map, List.getElem?_range hj] at hu
     rw [(hq j hj).1]
     exact hu
   · simp only [List.length_map, List.length_range]
     have : maxLen = 9223372036854775807 := by decide
     omega
   · intro x hx
     obtain ⟨i, hi, rfl⟩ := List.mem_map.1 hx
     exact (hq i (List.mem_range.1 hi)).2
end
end Go.Proofs.YtcecjdnkcbfhlaaGreatDoor
end
section
namespace Go.Proofs.YtcecjdnkcbfhlaaGreatDoor
open Go.Lib Go.RowKit
set_option maxRecDepth 100000
theorem tab_of_reads {P : Program} {W : World} {name : String} {k : IntKind} {zs : List Int} {g : Nat} {t e : TypeId} {n : Nat}
 (hg : P.globalNamed name = some g) (hty : (P.globals[g]?).map (·.type) = some t) (ht : P.underlying t = some (.array n e)) (he : P.underlying e = some (.int k)) (hce : P.cellsOf e = 1) (hct : P.cellsOf t = n)
 (h : VarReads P W name (tabData k zs)) : TabIs P W name k zs := by
 obtain ⟨g', t', cs, fuel, p, hg', ht', hvar, hd⟩ := h
 obtain rfl := Option.some.inj (hg.symm.trans hg')
 obtain rfl := Option.some.inj (hty.symm.trans ht')
 unfold TabIs
 rw [hvar, ← cells_of_tab ht he hce hct hd]
theorem gTabtab : Tryz.prog.globalNamed "strings.asciiSpace" = some 0 := by kernel_rfl
theorem gTabTypetab : (Tryz.prog.globals[0]?).map (·.type) = some 152 := by kernel_rfl
theorem cellsEtab : Tryz.prog.cellsOf 5 = 1 := by kernel_rfl
theorem cellsTtab : Tryz.prog.cellsOf 152 = 256 := by kernel_rfl
theorem tab_laid {W : World} (hL : laidMetH Tryz.prog Rows.polyMeansRow.laid W) : TabIs Tryz.prog W "strings.asciiSpace" .u8 Lib.asciiSpaceTab :=
 tab_of_reads gTabtab gTabTypetab Tryz.underlying152 Tryz.underlying5 cellsEtab cellsTtab (Lib.laidMet.reads hL (.tail _ (.tail _ (.tail _ (.tail _ (.tail _ (.tail _ (.tail _ (.head _)))))))))
theorem gTabpow : Tryz.prog.globalNamed "internal/strconv.uint64pow10" = some 5 := by kernel_rfl
theorem gTabTypepow : (Tryz.prog.globals[5]?).map (·.type) = some 269 := by kernel_rfl
theorem cellsEpow : Tryz.prog.cellsOf 140 = 1 := by kernel_rfl
theorem cellsTpow : Tryz.prog.cellsOf 269 = 20 := by kernel_rfl
theorem pow_laid {W : World} (hL : laidMetH Tryz.prog Rows.polyMeansRow.laid W) : TabIs Tryz.prog W "internal/strconv.uint64pow10" .u64 Lib.pow10Tab :=
 tab_of_reads gTabpow gTabTypepow Tryz.underlying269 Tryz.underlying140 cellsEpow cellsTpow (Lib.laidMet.reads hL (.tail _ (.tail _ (.head _))))
end Go.Proofs.YtcecjdnkcbfhlaaGreatDoor
end
