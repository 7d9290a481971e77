/- The law PolyUnits, plain. -/
import Derived.Test.YtlpfcclecmalhaaDoorPlPrint
import Derived.Test.YtlpfcclecmalhaaDoorSpE
set_option linter.unusedSimpArgs false
set_option linter.unusedVariables false
set_option linter.unusedSectionVars false
namespace Go.Sp
open Go.Stp Go.ValP
theorem Ok.law {x : Option Bool} (h : Ok x (fun r => r = true)) : x = some true := by
  obtain ⟨v, h1, rfl⟩ := h
  exact h1
theorem fit15_tot : Ok reckonerlaw15_fit (fun r => r = true) := by
  unfold reckonerlaw15_fit
  rw [Var_eq]
  refine Ok.os fun y1 e1 => ?_
  subst e1
  refine Ok.os fun y2 e2 => ?_
  subst e2
  have hc : ∀ c ∈ [(⟨0, 0, 0⟩ : C)], c.s = 0 ∧ c.r = 0 ∧ 0 ≤ c.c ∧ c.c ≤ 3 := fun c hc => by
    obtain rfl : c = ⟨0, 0, 0⟩ := by simpa using hc
    decide
  have h1 := MkP.one (n := 1) (v := [⟨0, 0, 0⟩]) (by omega) (by simp) hc
  refine Ok.ob (h1.add h1 (by omega)) fun r _ hr => ?_
  have h2 := MkP.one (n := 2) (v := [⟨0, 0, 0⟩]) (by omega) (by simp) hc
  have := hr.1.stay h2.st h2.fi fun φ => by simp [EV]; omega
  subst this
  simp only [if_true]
  rw [poly_Print_eq (by simp) h2.told]
  refine Ok.os fun y3 e3 => Ok.bv fun z1 b1 => Ok.bv fun z2 b2 => Ok.sm ?_
  have : polyS [(⟨2, [⟨0, 0, 0⟩]⟩ : T)] = [50, 42, 83, 49, 33, 65, 49] := by
    have e : Lib.itoa 2 = [50] := by
      rw [Lib.itoa, if_neg (by omega), Lib.decDigits]
      simp
    simp [polyS, joinS, termS, pieces, isN, e, cellS]
  rw [b2, b1, e3, this]
  decide
theorem same_self {k : Nat} {p : List T} (h : MkP k p) (hk : k ≤ 1000) : reckonerlaw15_same p p = some true := by
  unfold reckonerlaw15_same
  have hl := h.len
  rw [poly_Print_eq (by omega) h.told]
  simp [obind, bindv]
theorem prods_one {p : List T} (h : ∀ t ∈ p, SrtC t.v) : prods p [⟨1, []⟩] = p := by
  unfold prods
  induction p with
  | nil => rfl
  | cons t p ih =>
    rw [List.flatMap_cons, ih fun u hu => h u (by simp [hu])]
    simp only [row1, List.map_cons, List.map_nil, List.append_nil, Int.mul_one, srtC_of (h t (by simp))]
    rfl
theorem PolyUnits_tot {l : List Int} (hl : (l.length : Int) ≤ 9223372036854775807) (hb : ∀ x ∈ l, 0 ≤ x ∧ x ≤ 255) : Ok (reckonerlaw15_PolyUnits l) (fun r => r = true) := by
  unfold reckonerlaw15_PolyUnits
  refine Ok.ob fit15_tot fun y _ hy => Ok.bv fun z1 e1 => Ok.it (fun h => ?_) fun _ => ?_
  · rw [e1, hy] at h
    cases h
  refine Ok.ob (Make_tot hl hb) fun r _ hr => Ok.bv fun z2 e2 => Ok.it (fun _ => Ok.sm rfl) fun h2 => ?_
  have hp := hr.2 (by rw [e2] at h2; simpa using h2)
  obtain ⟨p, ok⟩ := r
  simp only at hp ⊢
  refine Ok.ob poly_Const_tot fun y0 _ h0 => ?_
  obtain rfl := h0.1 (by omega)
  refine Ok.ob poly_Const_tot fun y1 _ h1 => ?_
  obtain rfl := h1.1 (by omega)
  rw [if_pos rfl, if_neg (by omega)]
  simp only
  have one : MkP 1 [(⟨1, []⟩ : T)] := MkP.one (by omega) (by simp) (by simp)
  refine Ok.ob (hp.add (MkP.nil (k := 0)) (by omega)) fun a _ ha => ?_
  obtain rfl := ha.1.stay hp.st hp.fi fun φ => by rw [List.append_nil]
  refine Ok.ob (hp.mul one (by omega) (by omega) (by omega)) fun b _ hb => ?_
  obtain rfl := hb.1.stay hp.st hp.fi fun φ => by rw [prods_one hp.so]
  refine Ok.ob ((MkP.nil (k := 0)).mul hp (by omega) (by omega) (by omega)) fun c _ hc => ?_
  obtain rfl := hc.1.stay StP.nil (MkP.nil (k := 0)).fi fun φ => rfl
  refine Ok.ob (poly_Add_tot (ps := []) (sortT_small (by simp) (by simp)) (by simp) (by simp) (by simp) (by simp [sumN])) fun d _ hd => ?_
  obtain rfl := hd.stay StP.nil (MkP.nil (k := 0)).fi fun φ => rfl
  refine Ok.bv fun a1 b1 => Ok.bv fun a2 b2 => Ok.bv fun a3 b3 => ?_
  have h3 : a3 = true := by rw [b3, b2, b1]; rfl
  rw [h3]
  simp only [if_true]
  rw [same_self hp (by omega)]
  refine Ok.os fun y4 e4 => Ok.bv fun a4 b4 => ?_
  have h4 : a4 = true := by rw [b4, e4]; rfl
  rw [h4]
  simp only [if_true]
  refine Ok.os fun y5 e5 => Ok.bv fun a5 b5 => Ok.bv fun a6 b6 => Ok.bv fun a7 b7 => Ok.bv fun a8 b8 => Ok.bv fun a9 b9 => ?_
  have h9 : a9 = true := by rw [b9, b8, b7, b6, b5, e5]; rfl
  rw [h9]
  simp only [if_true]
  have hh : poly_Holds [] (fun c => reckonerlaw15_PolyUnits_1 c) = some false := by
    have : Ok (poly_Holds [] (fun c => reckonerlaw15_PolyUnits_1 c)) (fun r => r = false) := by
      unfold poly_Holds
      refine Ok.bv fun J hJ => Ok.bv fun B hB => ?_
      subst hB
      refine Ok.lp (fun s : Int => s = 0) (fun _ => 0) rfl (by omega) ?_
      rintro s rfl next ih
      refine Ok.bv fun z e => Ok.it (fun h => ?_) fun h => ?_
      · rw [e] at h; simp at h
      · rw [hJ]; exact Ok.sm rfl
    obtain ⟨v, h, rfl⟩ := this
    exact h
  rw [hh]
  refine Ok.os fun y6 e6 => Ok.bv fun a10 b10 => Ok.bv fun a11 b11 => Ok.sm ?_
  rw [b11, b10, e6]
  rfl
end Go.Sp
