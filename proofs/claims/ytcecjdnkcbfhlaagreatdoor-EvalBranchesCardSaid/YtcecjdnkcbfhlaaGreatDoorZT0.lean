/- Joined texts. -/
import Derived.Test.YtcecjdnkcbfhlaaGreatDoorRows
import Derived.ProofKit
import Derived.OpenShut
import Derived.LaidMore
import Derived.Lay
import Derived.Deep.Strs
import Derived.Deep.DeepWitnessRowRef
import Derived.Deep.Slices
import Derived.Carry
import Derived.Lib.LaidTab
import Derived.Lib.LaidU8
import Derived.Test.YtcecjdnkcbfhlaaGreatDoorZL0
import Derived.Test.YtcecjdnkcbfhlaaGreatDoorZL1
import Derived.Test.YtcecjdnkcbfhlaaGreatDoorZLibC
set_option linter.unusedSimpArgs false
set_option linter.unusedVariables false
set_option linter.unusedSectionVars false
section
namespace Go.Proofs.YtcecjdnkcbfhlaaGreatDoor
open Go.ChangeShapes Go.WideShapes Go.ChangeAt Go.RowKit Go.Stp Go.Deep
open Go.ChangeMaps (open_string shut_string)
noncomputable def world (os : Os) : World := World.laidAll Tryz.prog os Rows.evalOriginsRow.laid
set_option maxRecDepth 100000
theorem world_met (os : Os) (args : Array Value) : laidMet Tryz.prog Rows.evalOriginsRow.laid ((world os).forCall (fun _ _ => 0) ⟨#[], args, []⟩).memory :=
 laidMet_laidAll _ kR kR
theorem world_vars (os : Os) (args : Array Value) : ((world os).forCall (fun _ _ => 0) ⟨#[], args, []⟩).variablesRefB Tryz.checked.prog = true := by kernel_rfl
theorem world_rest (os : Os) (args : Array Value) : (((world os).forCall (fun _ _ => 0) ⟨#[], args, []⟩).heap.toList.drop Tryz.checked.prog.globals.size).take ((begin Tryz.checked.prog (fun _ _ => 0) default).world.heap.size - Tryz.checked.prog.globals.size) =
 (begin Tryz.checked.prog (fun _ _ => 0) default).world.heap.toList.drop Tryz.checked.prog.globals.size := by kernel_rfl
end Go.Proofs.YtcecjdnkcbfhlaaGreatDoor
end
section
namespace Go.Proofs.YtcecjdnkcbfhlaaGreatDoor
open Go.ChangeShapes Go.WideShapes Go.ChangeAt Go.RowKit Go.Stp Go.Deep Go.ValP
set_option maxRecDepth 100000
theorem choose_lt {α : Type} {n : Nat} {p : Nat → α → Prop} (h : ∀ i, i < n → ∃ x, p i x) [Inhabited α] : ∃ q : Nat → α, ∀ i, i < n → p i (q i) := by
 refine ⟨fun i => if hi : i < n then (h i hi).choose else default, fun i hi => ?_⟩
 simp only [hi, dif_pos]
 exact (h i hi).choose_spec
theorem add_at (g o i : Nat) : (⟨g, o, none⟩ : Addr).add i = ⟨g, o + i, none⟩ := by
 unfold Addr.add
 by_cases h0 : i = 0 <;> simp [h0]
theorem laidOut : laidOutB Tryz.prog = true := by kernel_rfl
section
variable {H : Type} {enc : TypeId × Value → H} {w : World} {base b0 : Nat} {sp : Nat → Bool} {held : Bool} {r : Reach} {v : Value} {d : DataW H} {ps : List MemPlace}
end
end Go.Proofs.YtcecjdnkcbfhlaaGreatDoor
end
section
namespace Go.Proofs.YtcecjdnkcbfhlaaGreatDoor
open Go.ChangeShapes Go.WideShapes Go.ChangeAt Go.RowKit Go.Stp Go.Deep Go.ValP
set_option maxRecDepth 100000
theorem wts_cons {H : Type} {P : Program} {t : TypeId} {ts : List TypeId} {d : DataW H} {r : List (DataW H)} {B : Nat} (h : (DataW.weightsEach P (t :: ts) (d :: r)).all (· ≤ B) = true) : (∀ k ∈ DataW.weights P t d, k ≤ B) ∧ (DataW.weightsEach P ts r).all (· ≤ B) = true := by
 rw [DataW.weightsEach, List.all_append, Bool.and_eq_true] at h
 exact ⟨fun k hk => by simpa using List.all_eq_true.1 h.1 k hk, h.2⟩
section
variable {H : Type} {enc : TypeId × Value → H} {w : World} {base b0 : Nat} {sp : Nat → Bool} {held : Bool} {r : Reach} {v : Value} {d : DataW H} {ps : List MemPlace}
theorem bytSeedW : Tryz.prog.bytesOf 5 = 1 := by kernel_rfl
theorem celSeedW : Tryz.prog.cellsOf 5 = 1 := by kernel_rfl
theorem open_SeedW (hval : Value.okWide Tryz.prog w r b0 23 v) (hd : DataW.Trod enc Tryz.prog w base sp held 23 v d ps) :
 ∃ xs : List Int, RdZ (hz w) v 1 (eI .u8) xs ∧ ((∀ k ∈ DataW.weights Tryz.prog 23 d, k ≤ reachBytes) → xs.length ≤ reachBytes) ∧ ∀ x ∈ xs, 0 ≤ x ∧ x ≤ 255 := by
 obtain ⟨a0, len, cap, rfl⟩ := okWide_slice Tryz.underlying23 hval
 obtain ⟨fuel, hf⟩ := hd
 rcases DataW.trod_slice Tryz.underlying23 hf with ⟨hcs, _⟩ | ⟨a, len', cap', elems, rest, n, _, hcs, hx, _, hlc, hmx, hlen, hel, _, _⟩
 · simp only [Value.cells, List.cons.injEq, and_true] at hcs
   exact ⟨[], .inl ⟨hcs, rfl⟩, fun _ => by simp, fun x hx => by cases hx⟩
 · simp only [Value.cells, List.cons.injEq, and_true, Value.slice.injEq] at hcs
   obtain ⟨rfl, rfl, rfl⟩ := hcs
   have hh : w.has Tryz.prog r b0 a 5 cap := by
    have h := hval
    unfold Value.okWide at h
    rw [Tryz.underlying23] at h
    unfold Cell.okWide at h
    rw [Tryz.underlying23] at h
    unfold Cell.ok at h
    rw [Tryz.underlying23] at h
    exact h.2.2
   obtain ⟨_, hspot, row, cells, hshape, _⟩ := hh
   obtain ⟨g, o, spot⟩ := a
   simp only at hspot
   subst hspot
   obtain ⟨cc, e, fz, hb⟩ : ∃ cc e fz, w.heap[g]? = some (.cells cc e fz) := by
    unfold World.shape? at hshape
    cases hg : w.heap[g]? with
    | none => simp [hg] at hshape
    | some ob =>
     cases ob with
     | cells cc e fz => exact ⟨cc, e, fz, rfl⟩
     | _ => simp [hg] at hshape
   have each : ∀ i, i < len → ∃ x : Int, cc.toList[o + i]? = some (.int .u8 x) ∧ (0 ≤ x ∧ x ≤ 255) := by
    intro i hi
    have h1 := hel i hi
    rw [List.getElem?_eq_getElem (by omega), celSeedW, Option.bind_eq_some_iff] at h1
    obtain ⟨cs', h2, h3⟩ := h1
    obtain ⟨_, hl3, hc3⟩ := World.cells?_some h2
    obtain ⟨x, rfl, _, hn⟩ := DataW.trod_int Tryz.underlying5 h3
    refine ⟨x, ?_, bounds_u8 hn⟩
    have h4 := hc3 0 (by decide)
    rw [add_at, add_at] at h4
    unfold World.cell? at h4
    rw [hb] at h4
    simpa using h4
   obtain ⟨q, hq⟩ := choose_lt each
   refine ⟨(List.range len).map q, .inr ⟨g, o, cap, cc.toList, e, fz, by simp, by simpa using hlc, by simpa [hz] using hb, ?_⟩, ?_, ?_⟩
   · intro j u hu
     have hj : j < len := by
      have := (List.getElem?_eq_some_iff.1 hu).1
      rw [flatMap_len (eI .u8) 1 (fun _ => rfl), List.length_map, List.length_range] at this
      omega
     have e1 : ((List.range len).map q).flatMap (eI .u8) = (List.range len).map fun i => Value.int .u8 (q i) := by
      rw [List.flatMap_map]
      exact List.map_eq_flatMap.symm
     rw [e1, List.getElem?_map, List.getElem?_range hj] at hu
     rw [(hq j hj).1]
     exact hu
   · intro hw
     have hd : d = .slice (elems.map (·.1)) (rest.map (·.1)) := congrArg Prod.fst hx
     rw [hd] at hw
     have := hw ((elems.length + rest.length) * Tryz.prog.bytesOf 5) (by unfold DataW.weights; rw [Tryz.underlying23]; simp)
     rw [bytSeedW] at this
     simp only [List.length_map, List.length_range]
     omega
   · intro x hx
     obtain ⟨i, hi, rfl⟩ := List.mem_map.1 hx
     exact (hq i (List.mem_range.1 hi)).2
theorem bytByteW : Tryz.prog.bytesOf 5 = 1 := by kernel_rfl
theorem celByteW : Tryz.prog.cellsOf 5 = 1 := by kernel_rfl
theorem open_ByteW (hval : Value.okWide Tryz.prog w r b0 22 v) (hd : DataW.Trod enc Tryz.prog w base sp held 22 v d ps) :
 ∃ xs : List Int, RdZ (hz w) v 1 (eI .u8) xs ∧ ((∀ k ∈ DataW.weights Tryz.prog 22 d, k ≤ reachBytes) → xs.length ≤ reachBytes) ∧ ∀ x ∈ xs, 0 ≤ x ∧ x ≤ 255 := by
 obtain ⟨a0, len, cap, rfl⟩ := okWide_slice Tryz.underlying22 hval
 obtain ⟨fuel, hf⟩ := hd
 rcases DataW.trod_slice Tryz.underlying22 hf with ⟨hcs, _⟩ | ⟨a, len', cap', elems, rest, n, _, hcs, hx, _, hlc, hmx, hlen, hel, _, _⟩
 · simp only [Value.cells, List.cons.injEq, and_true] at hcs
   exact ⟨[], .inl ⟨hcs, rfl⟩, fun _ => by simp, fun x hx => by cases hx⟩
 · simp only [Value.cells, List.cons.injEq, and_true, Value.slice.injEq] at hcs
   obtain ⟨rfl, rfl, rfl⟩ := hcs
   have hh : w.has Tryz.prog r b0 a 5 cap := by
    have h := hval
    unfold Value.okWide at h
    rw [Tryz.underlying22] at h
    unfold Cell.okWide at h
    rw [Tryz.underlying22] at h
    unfold Cell.ok at h
    rw [Tryz.underlying22] at h
    exact h.2.2
   obtain ⟨_, hspot, row, cells, hshape, _⟩ := hh
   obtain ⟨g, o, spot⟩ := a
   simp only at hspot
   subst hspot
   obtain ⟨cc, e, fz, hb⟩ : ∃ cc e fz, w.heap[g]? = some (.cells cc e fz) := by
    unfold World.shape? at hshape
    cases hg : w.heap[g]? with
    | none => simp [hg] at hshape
    | some ob =>
     cases ob with
     | cells cc e fz => exact ⟨cc, e, fz, rfl⟩
     | _ => simp [hg] at hshape
   have each : ∀ i, i < len → ∃ x : Int, cc.toList[o + i]? = some (.int .u8 x) ∧ (0 ≤ x ∧ x ≤ 255) := by
    intro i hi
    have h1 := hel i hi
    rw [List.getElem?_eq_getElem (by omega), celByteW, Option.bind_eq_some_iff] at h1
    obtain ⟨cs', h2, h3⟩ := h1
    obtain ⟨_, hl3, hc3⟩ := World.cells?_some h2
    obtain ⟨x, rfl, _, hn⟩ := DataW.trod_int Tryz.underlying5 h3
    refine ⟨x, ?_, bounds_u8 hn⟩
    have h4 := hc3 0 (by decide)
    rw [add_at, add_at] at h4
    unfold World.cell? at h4
    rw [hb] at h4
    simpa using h4
   obtain ⟨q, hq⟩ := choose_lt each
   refine ⟨(List.range len).map q, .inr ⟨g, o, cap, cc.toList, e, fz, by simp, by simpa using hlc, by simpa [hz] using hb, ?_⟩, ?_, ?_⟩
   · intro j u hu
     have hj : j < len := by
      have := (List.getElem?_eq_some_iff.1 hu).1
      rw [flatMap_len (eI .u8) 1 (fun _ => rfl), List.length_map, List.length_range] at this
      omega
     have e1 : ((List.range len).map q).flatMap (eI .u8) = (List.range len).map fun i => Value.int .u8 (q i) := by
      rw [List.flatMap_map]
      exact List.map_eq_flatMap.symm
     rw [e1, List.getElem?_map, List.getElem?_range hj] at hu
     rw [(hq j hj).1]
     exact hu
   · intro hw
     have hd : d = .slice (elems.map (·.1)) (rest.map (·.1)) := congrArg Prod.fst hx
     rw [hd] at hw
     have := hw ((elems.length + rest.length) * Tryz.prog.bytesOf 5) (by unfold DataW.weights; rw [Tryz.underlying22]; simp)
     rw [bytByteW] at this
     simp only [List.length_map, List.length_range]
     omega
   · intro x hx
     obtain ⟨i, hi, rfl⟩ := List.mem_map.1 hx
     exact (hq i (List.mem_range.1 hi)).2
theorem celB2 : Tryz.prog.cellsOf 66 = 2 := by kernel_rfl
theorem celB21 : Tryz.prog.cellsOf 22 = 1 := by kernel_rfl
theorem typB2 : Tryz.prog.cellTypes Tryz.prog.depth 66 = some [22, 22] := by kernel_rfl
theorem open_B2 (hval : Value.okWide Tryz.prog w r b0 66 v) (hd : DataW.Trod enc Tryz.prog w base sp held 66 v d ps) :
 ∃ (x : B2) (a b : Value), v = .agg #[a, b] ∧ RdZ (hz w) a 1 (eI .u8) x.a ∧ RdZ (hz w) b 1 (eI .u8) x.b ∧ ((∀ k ∈ DataW.weights Tryz.prog 66 d, k ≤ reachBytes) → x.a.length ≤ reachBytes ∧ x.b.length ≤ reachBytes) ∧ (∀ y ∈ x.a, 0 ≤ y ∧ y ≤ 255) ∧ ∀ y ∈ x.b, 0 ≤ y ∧ y ≤ 255 := by
 simp only [Value.okWide, Tryz.underlying66] at hval
 obtain ⟨cs, rfl, hsz, ts, hts, _, hrow⟩ := hval
 obtain rfl : ts = [22, 22] := Option.some.inj (hts.symm.trans typB2)
 obtain ⟨fuel, hf⟩ := hd
 obtain ⟨ys, m, _, hx, hl, hy, hh⟩ := DataW.trod_array Tryz.underlying66 hf
 have h0 := hh 0 (by decide)
 have h1 := hh 1 (by decide)
 obtain ⟨l⟩ := cs
 simp only [Value.cells] at hl h0 h1
 rw [celB2] at hl
 simp only [celB21] at h0 h1
 match ys, hy with
 | [u0, u1], _ =>
 match l, hl with
 | [a0, a1], _ =>
  have e0 : Value.okWide Tryz.prog w r b0 22 a0 := by
   obtain ⟨u, hu, h⟩ := hrow 0 a0 rfl
   obtain rfl : 22 = u := by simpa using hu
   simp only [Value.okWide, Tryz.underlying22]
   exact h
  have e1 : Value.okWide Tryz.prog w r b0 22 a1 := by
   obtain ⟨u, hu, h⟩ := hrow 1 a1 rfl
   obtain rfl : 22 = u := by simpa using hu
   simp only [Value.okWide, Tryz.underlying22]
   exact h
  obtain ⟨q0, n0, k0, rfl⟩ := okWide_slice Tryz.underlying22 e0
  obtain ⟨q1, n1, k1, rfl⟩ := okWide_slice Tryz.underlying22 e1
  obtain ⟨xs, r0, w0, b0⟩ := open_ByteW e0 (d := u0.1) (ps := u0.2) (enc := enc) (base := base) (sp := sp) (held := held) ⟨m, by simpa [Value.cells] using h0⟩
  obtain ⟨zs, r1, w1, b1⟩ := open_ByteW e1 (d := u1.1) (ps := u1.2) (enc := enc) (base := base) (sp := sp) (held := held) ⟨m, by simpa [Value.cells] using h1⟩
  refine ⟨⟨xs, zs⟩, _, _, rfl, r0, r1, fun hw => ?_, b0, b1⟩
  have hd : d = .agg [u0.1, u1.1] := congrArg Prod.fst hx
  rw [hd] at hw
  have hw' : ∀ k ∈ DataW.weights Tryz.prog 22 u0.1 ++ (DataW.weights Tryz.prog 22 u1.1 ++ []), k ≤ reachBytes := by
   intro k hk
   refine hw k ?_
   unfold DataW.weights
   rw [Tryz.underlying66]
   exact hk
  exact ⟨w0 fun k hk => hw' k (by simp [hk]), w1 fun k hk => hw' k (by simp [hk])⟩
end
end Go.Proofs.YtcecjdnkcbfhlaaGreatDoor
end
section
namespace Go.Proofs.YtcecjdnkcbfhlaaGreatDoor
open Go.Lib Go.RowKit
set_option maxRecDepth 100000
theorem gTab : Tryz.prog.globalNamed "strings.asciiSpace" = some 0 := by kernel_rfl
theorem gTabType : (Tryz.prog.globals[0]?).map (·.type) = some 152 := by kernel_rfl
theorem cellsE : Tryz.prog.cellsOf 5 = 1 := by kernel_rfl
theorem cellsT : Tryz.prog.cellsOf 152 = 256 := by kernel_rfl
theorem tab_of_reads {P : Program} {W : World} {name : String} {k : IntKind} {zs : List Int} {g : Nat} {t e : TypeId} {n : Nat}
 (hg : P.globalNamed name = some g) (hty : (P.globals[g]?).map (·.type) = some t) (ht : P.underlying t = some (.array n e)) (he : P.underlying e = some (.int k)) (hce : P.cellsOf e = 1) (hct : P.cellsOf t = n)
 (h : VarReads P W name (tabData k zs)) : TabIs P W name k zs := by
 obtain ⟨g', t', cs, fuel, p, hg', ht', hvar, hd⟩ := h
 obtain rfl := Option.some.inj (hg.symm.trans hg')
 obtain rfl := Option.some.inj (hty.symm.trans ht')
 unfold TabIs
 rw [hvar, ← cells_of_tab ht he hce hct hd]
theorem tab_laid {W : World} (hL : laidMetH Tryz.prog Rows.evalOriginsRow.laid W) : TabIs Tryz.prog W "strings.asciiSpace" .u8 Lib.asciiSpaceTab :=
 tab_of_reads gTab gTabType Tryz.underlying152 Tryz.underlying5 cellsE cellsT (Lib.laidMet.reads hL (.tail _ (.tail _ (.head _))))
end Go.Proofs.YtcecjdnkcbfhlaaGreatDoor
end
