/- The law PolyLaws, plain. -/
import Derived.Test.YtlpfcclecmalhaaDoorPlAlg
import Derived.Test.YtlpfcclecmalhaaDoorSpJ
set_option linter.unusedSimpArgs false
set_option linter.unusedVariables false
set_option linter.unusedSectionVars false
namespace Go.Sp
open Go.Stp Go.ValP
theorem PolyLaws_tot {a b c : List Int} (hla : (a.length : Int) ≤ 9223372036854775807) (hlb : (b.length : Int) ≤ 9223372036854775807) (hlc : (c.length : Int) ≤ 9223372036854775807) (hba : ∀ x ∈ a, 0 ≤ x ∧ x ≤ 255) (hbb : ∀ x ∈ b, 0 ≤ x ∧ x ≤ 255) (hbc : ∀ x ∈ c, 0 ≤ x ∧ x ≤ 255) : Ok (reckonerlaw15_PolyLaws a b c) (fun r => r = true) := by
  unfold reckonerlaw15_PolyLaws
  refine Ok.ob fit15_tot fun y _ hy => Ok.bv fun z1 e1 => Ok.it (fun h => ?_) fun _ => ?_
  · rw [e1, hy] at h
    cases h
  refine Ok.ob (Make_tot hla hba) fun x _ hx => Ok.ob (Make_tot hlb hbb) fun y _ hy => Ok.ob (Make_tot hlc hbc) fun z _ hz => ?_
  refine Ok.bv fun z47 e47 => Ok.bv fun z50 e50 => Ok.bv fun z51 e51 => Ok.bv fun z54 e54 => Ok.bv fun z55 e55 => Ok.it (fun _ => Ok.sm rfl) fun hn => ?_
  have ho : (x.2 = true ∧ y.2 = true) ∧ z.2 = true := by
    rw [e55, e54, e51, e50, e47] at hn
    simp only [Bool.or_eq_false_iff, Bool.not_eq_false'] at hn
    exact hn
  clear hn e47 e50 e51 e54 e55
  have mx := hx.2 ho.1.1
  have my := hy.2 ho.1.2
  have mz := hz.2 ho.2
  clear hx hy hz ho
  obtain ⟨x, xo⟩ := x
  obtain ⟨y, yo⟩ := y
  obtain ⟨z, zo⟩ := z
  simp only at mx my mz ⊢
  have nx : MkP 32 x := mx.mono (by omega)
  have ny : MkP 32 y := my.mono (by omega)
  have nz : MkP 32 z := mz.mono (by omega)
  refine Ok.ob (MkP.add' (ps := [x, y, z]) (by simp [nx, ny, nz]) (by simp)) fun s _ hs => Ok.ob (MkP.add' (ps := [z, y, x]) (by simp [nx, ny, nz]) (by simp)) fun t _ ht => ?_
  refine Ok.ob (mx.mulN my (by omega) (by omega) (by omega)) fun m _ hm => Ok.ob (my.mulN mx (by omega) (by omega) (by omega)) fun n _ hn => ?_
  have est : t = s := ht.1.same hs.1 fun φ => by
    simp only [List.flatten_cons, List.flatten_nil, EV_append, EV]
    omega
  have emn : n = m := hn.1.same hm.1 fun φ => EV_prods_comm φ y x
  subst est emn
  refine Ok.bv fun z86 e86 => Ok.bv fun z90 e90 => Ok.bv fun z91 e91 => ?_
  have g91 : z91 = false := by rw [e91, e90, e86]; simp
  subst g91
  refine Ok.ob (same_ok hs.2 (by simp)) fun y97 _ h97 => Ok.bv fun z98 e98 => Ok.bv fun z99 e99 => Ok.bv fun z100 e100 => ?_
  have g100 : z100 = false := by
    rw [e100, e99, e98]
    cases h : t.2 with
    | false => rfl
    | true => rw [h97 (by simp [h])]; rfl
  subst g100
  refine Ok.ob (same_ok hm.2 (by simp)) fun y106 _ h106 => Ok.bv fun z107 e107 => Ok.bv fun z108 e108 => Ok.bv fun z109 e109 => ?_
  have g109 : z109 = false := by
    rw [e109, e108, e107]
    cases h : n.2 with
    | false => rfl
    | true => rw [h106 (by simp [h])]; rfl
  refine Ok.it (fun h => by rw [g109] at h; cases h) fun _ => ?_
  clear e86 e90 e91 h97 e98 e99 e100 h106 e107 e108 e109 g109
  refine Ok.ob (MkP.add' (ps := [y, z]) (by simp [ny, nz]) (by simp)) fun u _ hu => ?_
  -- only where it is not too great
  have hu32 : MkP 32 u.1 := by
    cases h : u.2 with
    | true => exact hu.2 h
    | false => rw [hu.1.not h]; exact MkP.nil
  refine Ok.ob (mx.mulN hu32 (by omega) (by omega) (by omega)) fun v _ hv => Ok.ob (mx.mulN mz (by omega) (by omega) (by omega)) fun w _ hw => ?_
  refine Ok.bv fun z130 e130 => Ok.bv fun z133 e133 => Ok.bv fun z134 e134 => Ok.bv fun z137 e137 => Ok.bv fun z138 e138 => Ok.bv fun z141 e141 => Ok.bv fun z142 e142 => Ok.it (fun _ => Ok.sm rfl) fun h => ?_
  have ho : ((n.2 = true ∧ u.2 = true) ∧ v.2 = true) ∧ w.2 = true := by
    rw [e142, e141, e138, e137, e134, e133, e130] at h
    simp only [Bool.or_eq_false_iff, Bool.not_eq_false'] at h
    exact h
  have mn := hm.2 ho.1.1.1
  have mw := hw.2 ho.2
  refine Ok.ob (MkP.add' (ps := [n.1, w.1]) (by simp [mn, mw]) (by simp)) fun q _ hq => Ok.bv fun z151 e151 => ?_
  have evq : q = v := hq.1.same hv.1 fun φ => by
    have h1 := (hm.1.ok ho.1.1.1).2.2.1 φ
    have h2 := (hw.1.ok ho.2).2.2.1 φ
    have h3 := (hu.1.ok ho.1.1.2).2.2.1
    rw [EV_prods_right φ x h3]
    simp only [List.flatten_cons, List.flatten_nil, List.append_nil]
    rw [EV_prods_app, EV_append, h1, h2]
  subst evq
  have g151 : z151 = false := by rw [e151, ho.1.2]; rfl
  subst g151
  refine Ok.ob (same_ok hv.2 (fun _ => ho.1.2)) fun y155 _ h155 => Ok.bv fun z156 e156 => Ok.sm ?_
  rw [e156, h155 rfl]
  rfl
end Go.Sp
