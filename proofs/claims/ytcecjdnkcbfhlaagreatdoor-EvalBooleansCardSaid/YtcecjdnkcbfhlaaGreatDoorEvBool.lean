/- Plain: AND and OR ask from the left, and no further than they must. -/
import Derived.Test.YtcecjdnkcbfhlaaGreatDoorSpBo
import Derived.Test.YtcecjdnkcbfhlaaGreatDoorPlOk
set_option linter.unusedSimpArgs false
set_option linter.unusedVariables false
set_option linter.unusedSectionVars false
namespace Go.Sp
open Go.Stp Go.ValP
theorem KKs : KK = (KK - 1) + 1 := by
  have : 0 < KK := by unfold KK; omega
  omega
theorem ev_step (k : Nat) (r : Rn) (n : Nd) (m : List (C × Bool)) : eval_run_eval (k + 1) r n m = eval_run_eval_B (eval_run_eval k) r n m := rfl
abbrev bV (b : Bool) : V := ⟨3, if b = true then 1 else 0, []⟩
theorem bool_eq (b : Bool) : value_Bool b = some (bV b) := by cases b <;> simp [value_Bool, bindv]
theorem toBool_b (b : Bool) : value_ToBool (bV b) = some (bV b) := by cases b <;> simp [value_ToBool, bindv]
abbrev r0 : Rf := ⟨⟨0, 0, 0⟩, false, false⟩
abbrev cellN (c : C) : Nd := ⟨2, 0, ⟨0, 0, []⟩, ⟨c, false, false⟩, r0, [], []⟩
theorem ev_lit (k : Nat) (R : Rn) (v : V) (m : List (C × Bool)) : eval_run_eval (k + 1) R ⟨1, 0, v, r0, r0, [], []⟩ m = some (⟨v, R.c⟩, m) := by
  rw [ev_step]
  simp [eval_run_eval_B, bindv, obind, eval_run_made]
theorem ev_cell (k : Nat) (R : Rn) (c : C) (v : V) (hv : reckonerref13_Place_At R.p c = some v) (hk : v.k ≠ 4) (m : List (C × Bool)) : eval_run_eval (k + 1) R (cellN c) m = some (⟨v, ⟨0, 0, 0⟩⟩, mput m c true) := by
  rw [ev_step]
  simp [eval_run_eval_B, bindv, obind, eval_Area, eval_run_cell, reckonerref13_Place_Value, hv, hk]
theorem at_row {p : List V} {s c i : Int} (hs : 0 ≤ s ∧ s < 2) (hc : 0 ≤ c ∧ c < 8) (hi : 0 ≤ i ∧ i < 8) : reckonerref13_Place_At p ⟨s, c, i⟩ = some (gel p (64 * s + (8 * i + c))) := by
  have e1 : IntKind.wrap .i64 (8 * i) = 8 * i := (wI64 rfl).2 (by omega)
  have e2 : IntKind.wrap .i64 (8 * i + c) = 8 * i + c := (wI64 rfl).2 (by omega)
  simp only [reckonerref13_Place_At, bindv, e1, e2]
  rw [if_neg (by simp; omega)]
  simp only [chk]
  rw [if_pos hs, if_pos (by omega)]
def mK (n : Nat) : List (C × Bool) := (List.range n).map fun j : Nat => (⟨0, 0, (j : Int)⟩, true)
theorem mK_none (n : Nat) : ∀ (k j : Nat), kAt (⟨0, 0, (n : Int)⟩ : C) (((List.range n).drop k).map fun j : Nat => ((⟨0, 0, (j : Int)⟩ : C), true)) j = none := by
  intro k j
  have : ∀ (l : List Nat) (j : Nat), (∀ x ∈ l, x < n) → kAt (⟨0, 0, (n : Int)⟩ : C) (l.map fun j : Nat => ((⟨0, 0, (j : Int)⟩ : C), true)) j = none := by
    intro l
    induction l with
    | nil => intro j _; rfl
    | cons x r ih =>
      intro j h
      simp only [List.map_cons, kAt]
      rw [if_neg, ih _ fun y hy => h y (by simp [hy])]
      intro e
      have := h x (by simp)
      simp at e
      omega
  exact this _ j fun x hx => List.mem_range.1 (List.mem_of_mem_drop hx)
theorem mK_put (n : Nat) : mput (mK n) ⟨0, 0, (n : Int)⟩ true = mK (n + 1) := by
  have h := mK_none n 0 0
  simp only [List.drop_zero] at h
  unfold mput mK
  rw [h]
  simp [List.range_succ]
def askF (o : Bool) : List Bool → Nat → Bool × Nat
  | [], n => (!o, n)
  | b :: r, n => if (b == o) = true then (b, n + 1) else askF o r (n + 1)
theorem ask_end {o : Bool} {l : List Bool} {i : Nat} (h : l.length ≤ i) (n : Nat) : askF o (l.drop i) n = (!o, n) := by rw [List.drop_eq_nil_of_le h]; rfl
theorem ask_stop {o : Bool} {l : List Bool} {i : Nat} (h : i < l.length) (e : (gel l (i : Int) == o) = true) (n : Nat) : askF o (l.drop i) n = (gel l (i : Int), n + 1) := by
  have : gel l (i : Int) = l[i] := by simp [gel, h]
  rw [List.drop_eq_getElem_cons h, askF, ← this, if_pos e]
theorem ask_on {o : Bool} {l : List Bool} {i : Nat} (h : i < l.length) (e : (gel l (i : Int) == o) = false) (n : Nat) : askF o (l.drop i) n = askF o (l.drop (i + 1)) (n + 1) := by
  have : gel l (i : Int) = l[i] := by simp [gel, h]
  rw [List.drop_eq_getElem_cons h, askF, ← this, if_neg (by rw [e]; exact Bool.false_ne_true)]
theorem lazy_bool {k : Nat} {op : Int} {o : Bool} {l : List Bool} {R : Rn} {args : List Nd} {v : V} {a b : Rf} {nm : List UInt8} (hop : op = 3 ∧ o = false ∨ op = 4 ∧ o = true) (hl : l.length ≤ 8) (hla : args.length = l.length)
    (harg : ∀ i : Nat, i < l.length → ∀ m, eval_run_eval k R (gel args (i : Int)) m = some (⟨bV (gel l (i : Int)), ⟨0, 0, 0⟩⟩, mput m ⟨0, 0, (i : Int)⟩ true)) :
    Ok (eval_run_lazy (eval_run_eval k) R ⟨8, op, v, a, b, nm, args⟩ []) fun r => r.1.v = bV (askF o l 0).1 ∧ r.2 = mK (askF o l 0).2 := by
  have hz : (op = 4) ↔ o = true := by rcases hop with ⟨rfl, rfl⟩ | ⟨rfl, rfl⟩ <;> simp
  have hz3 : (op = 3) ↔ o = false := by rcases hop with ⟨rfl, rfl⟩ | ⟨rfl, rfl⟩ <;> simp
  have h2 : ¬ op = 2 := by rcases hop with ⟨rfl, rfl⟩ | ⟨rfl, rfl⟩ <;> simp
  unfold eval_run_lazy
  refine Ok.bv fun J4 e4 => ?_
  refine Ok.bv fun z1 e1 => ?_
  refine Ok.it (fun h => ?_) fun _ => ?_
  · rw [e1] at h
    simp [h2] at h
  refine Ok.bv fun J49 e49 => ?_
  have key : Ok (J49 true) fun r => r.1.v = bV (askF o l 0).1 ∧ r.2 = mK (askF o l 0).2 := by
    rw [e49]
    refine Ok.it (fun _ => ?_) fun h => by cases h
    refine Ok.bv fun J52 e52 => ?_
    refine Ok.bv fun B58 e58 => ?_
    refine Ok.lp (fun s => ∃ i : Nat, s.1 = (i : Int) ∧ i ≤ l.length ∧ s.2.1 = mK i ∧ askF o (l.drop i) i = askF o l 0) (fun s => l.length - s.1.toNat) ⟨0, rfl, Nat.zero_le _, rfl, rfl⟩ (by simp; omega) ?_
    rintro s ⟨i, h1, h3, h4, h5⟩ next hn
    rw [e58]
    refine Ok.bv fun z2 e2 => ?_
    refine Ok.it (fun h => ?_) fun h => ?_
    · rw [e2] at h
      have hi : i < l.length := by simp [h1, hla] at h; omega
      refine Ok.ck (by simp [h1, hla]; omega) ?_
      refine Ok.bv fun z3 e3 => ?_
      have h6 := harg i hi (mK i)
      rw [mK_put] at h6
      have h7 : eval_run_truth (eval_run_eval k) R z3 s.2.1 = some (⟨bV (gel l (i : Int)), R.c⟩, mK (i + 1)) := by
        rw [e3, h4]
        simp only [h1]
        unfold eval_run_truth
        rw [h6]
        simp [obind, bindv, toBool_b, eval_run_made]
      rw [h7]
      refine Ok.os fun y ey => ?_
      refine Ok.bv fun z4 e4' => ?_
      refine Ok.bv fun z5 e5 => ?_
      refine Ok.bv fun z6 e6 => ?_
      refine Ok.bv fun z7 e7 => ?_
      refine Ok.bv fun z8 e8 => ?_
      have e9 : z8 = (gel l (i : Int) == o) := by
        rw [e8, e7, e6, e5, e4', ey]
        have : decide (op = 4) = o := by cases o <;> simp_all
        simp only [this]
        cases gel l (i : Int) <;> cases o <;> simp
      refine Ok.it (fun h => ?_) fun h => ?_
      · rw [e9] at h
        refine Ok.sm ?_
        rw [← h5, ask_stop hi h, ey]
        exact ⟨rfl, rfl⟩
      · rw [e9] at h
        refine Ok.bv fun z9 e10 => ?_
        have e11 : z9 = ((i + 1 : Nat) : Int) := by
          rw [e10, h1]
          have := (wI64 (z := IntKind.wrap .i64 ((i : Int) + 1)) rfl).2 (by omega)
          rw [this]
          simp
        refine hn _ ⟨i + 1, e11, hi, by rw [ey], by rw [← h5, ask_on hi h]⟩ ?_
        simp only [e11, h1]
        omega
    · rw [e2] at h
      have hi : l.length ≤ i := by simp [h1, hla] at h; omega
      rw [e52]
      refine Ok.bv fun z3 e3 => ?_
      rw [bool_eq]
      refine Ok.os fun y ey => ?_
      refine Ok.os fun y2 ey2 => ?_
      refine Ok.sm ?_
      rw [← h5, ask_end hi, ey2, ey, e3, h4]
      have : decide (op = 3) = !o := by cases o <;> simp_all
      rw [this]
      exact ⟨rfl, rfl⟩
  refine Ok.bv fun z2 e2 => ?_
  refine Ok.it (fun h => ?_) fun h => ?_
  · rw [h]
    exact key
  · refine Ok.bv fun z3 e3 => ?_
    have : z3 = true := by
      rw [e3]
      rcases hop with ⟨rfl, rfl⟩ | ⟨rfl, rfl⟩
      · rw [e2] at h; simp at h
      · simp
    rw [this]
    exact key
theorem ev_fun (k : Nat) (R : Rn) (op : Int) (v : V) (a b : Rf) (nm : List UInt8) (l : List Nd) (m : List (C × Bool)) (hop : op ≤ 5) : eval_run_eval (k + 1) R ⟨8, op, v, a, b, nm, l⟩ m = obind (eval_run_lazy (eval_run_eval k) R ⟨8, op, v, a, b, nm, l⟩ m) fun y => some (y.1, y.2) := by
  rw [ev_step]
  simp [eval_run_eval_B, bindv, hop]
theorem mK_len (n : Nat) : (mK n).length = n := by simp [mK]
theorem srtK_len (m : List (C × Bool)) : (srtK m).length = m.length := by
  unfold srtK
  rw [(cellSort_perm _).length_eq, List.length_map]
theorem askF_le (o : Bool) : ∀ (l : List Bool) (n : Nat), (askF o l n).2 ≤ n + l.length
  | [], n => Nat.le_refl _
  | b :: r, n => by
    unfold askF
    split
    · simp
    · have := askF_le o r (n + 1)
      simp only [List.length_cons]
      omega
theorem Eval_of {n : Nd} {self : C} {p : List V} {r : Gt × List (C × Bool)} (h : eval_run_eval KK ⟨p, self⟩ n [] = some r) (hm : r.2.length ≤ 4000) : eval_Eval n self p = some ⟨r.1.v, if r.1.v.k = 4 then r.1.c else ⟨0, 0, 0⟩, srtK r.2⟩ := by
  unfold eval_Eval
  rw [h]
  simp only [obind, bindv, chk]
  by_cases hk : r.1.v.k = 4
  · rw [if_pos (show decide (r.1.v.k = 4) = true by simpa using hk), if_pos (by omega), if_pos hk]
  · rw [if_neg (show ¬ decide (r.1.v.k = 4) = true by simpa using hk), if_pos (by omega), if_neg hk]
theorem apply_eq (op : Int) (l : List Nd) (hl : l.length ≤ 4000) : tree_Apply op l = some ⟨8, op, ⟨0, 0, []⟩, r0, r0, [], l⟩ := by
  unfold tree_Apply
  simp only [chk, bindv, List.nil_append, List.length_nil, Nat.zero_add]
  rw [if_pos (by omega)]
theorem fit_at : reckonerref13_Place_At (zeroPl.set 0 (⟨1, 5, []⟩ : V)) ⟨0, 0, 0⟩ = some ⟨1, 5, []⟩ := by
  rw [at_row (by omega) (by omega) (by omega)]
  simp [gel, zeroPl]
theorem fit_E (k : Nat) : eval_run_eval (k + 1 + 1) ⟨zeroPl.set 0 (⟨1, 5, []⟩ : V), ⟨0, 0, 0⟩⟩ ⟨8, 1, ⟨0, 0, []⟩, r0, r0, [], [⟨1, 0, bV true, r0, r0, [], []⟩, cellN ⟨0, 0, 0⟩, cellN ⟨0, 1, 0⟩]⟩ [] = some (⟨⟨1, 5, []⟩, ⟨0, 0, 0⟩⟩, [(⟨0, 0, 0⟩, true)]) := by
  rw [ev_fun _ _ _ _ _ _ _ _ _ (by decide)]
  unfold eval_run_lazy eval_run_truth
  have h1 := ev_lit k ⟨zeroPl.set 0 (⟨1, 5, []⟩ : V), ⟨0, 0, 0⟩⟩ (bV true) []
  have h2 := ev_cell k ⟨zeroPl.set 0 (⟨1, 5, []⟩ : V), ⟨0, 0, 0⟩⟩ ⟨0, 0, 0⟩ _ fit_at (by decide) []
  have h3 : mput ([] : List (C × Bool)) ⟨0, 0, 0⟩ true = [(⟨0, 0, 0⟩, true)] := rfl
  rw [h3] at h2
  have g0 : (gel [(⟨1, 0, bV true, r0, r0, [], []⟩ : Nd), cellN ⟨0, 0, 0⟩, cellN ⟨0, 1, 0⟩] 0) = ⟨1, 0, bV true, r0, r0, [], []⟩ := rfl
  have g1 : (gel [(⟨1, 0, bV true, r0, r0, [], []⟩ : Nd), cellN ⟨0, 0, 0⟩, cellN ⟨0, 1, 0⟩] 1) = cellN ⟨0, 0, 0⟩ := rfl
  simp only [bindv, g0, g1, h1, obind, toBool_b, eval_run_made, chk]
  simp
  rw [h2]
theorem KK2 : KK - 2 + 1 + 1 = KK := by
  have : 2 ≤ KK := by unfold KK; omega
  omega
theorem fit_s : srtK [((⟨0, 0, 0⟩ : C), true)] = [⟨0, 0, 0⟩] := by
  unfold srtK cellSort
  simp
theorem fit_EK : eval_run_eval KK ⟨zeroPl.set 0 (⟨1, 5, []⟩ : V), ⟨0, 0, 0⟩⟩ ⟨8, 1, ⟨0, 0, []⟩, r0, r0, [], [⟨1, 0, bV true, r0, r0, [], []⟩, cellN ⟨0, 0, 0⟩, cellN ⟨0, 1, 0⟩]⟩ [] = some (⟨⟨1, 5, []⟩, ⟨0, 0, 0⟩⟩, [(⟨0, 0, 0⟩, true)]) := by
  have h := fit_E (KK - 2)
  rwa [KK2] at h
theorem fit_EE : eval_Eval ⟨8, 1, ⟨0, 0, []⟩, r0, r0, [], [⟨1, 0, bV true, r0, r0, [], []⟩, cellN ⟨0, 0, 0⟩, cellN ⟨0, 1, 0⟩]⟩ ⟨0, 0, 0⟩ (zeroPl.set 0 (⟨1, 5, []⟩ : V)) = some ⟨⟨1, 5, []⟩, ⟨0, 0, 0⟩, [⟨0, 0, 0⟩]⟩ := by
  have h := Eval_of fit_EK (by simp)
  rw [fit_s] at h
  rw [h]
  simp
theorem fit_true : reckonerlaw13_fit = some true := by
  have e1 : value_Num 5 = some ⟨1, 5, []⟩ := rfl
  have e2 : ∀ v, tree_Value v = some ⟨1, 0, v, r0, r0, [], []⟩ := fun _ => rfl
  have e3 : ∀ c : C, tree_Cell ⟨c, false, false⟩ = some (cellN c) := fun _ => rfl
  have key : Ok reckonerlaw13_fit (fun v => v = true) := by
    unfold reckonerlaw13_fit
    rw [e1]
    refine Ok.os fun y1 ey1 => ?_
    refine Ok.bv fun p ep => ?_
    rw [bool_eq]
    refine Ok.os fun y2 ey2 => ?_
    rw [e2]
    refine Ok.os fun y3 ey3 => ?_
    rw [e3]
    refine Ok.os fun y4 ey4 => ?_
    rw [e3]
    refine Ok.os fun y5 ey5 => ?_
    rw [apply_eq _ _ (by simp)]
    refine Ok.os fun y6 ey6 => ?_
    have hE : eval_Eval y6 ⟨0, 0, 0⟩ p = some ⟨⟨1, 5, []⟩, ⟨0, 0, 0⟩, [⟨0, 0, 0⟩]⟩ := by
      rw [ey6, ey5, ey4, ey3, ey2, ep, ey1]
      exact fit_EE
    rw [hE]
    refine Ok.os fun y7 ey7 => ?_
    refine Ok.os fun y8 ey8 => ?_
    refine Ok.bv fun z1 ez1 => ?_
    refine Ok.bv fun z2 ez2 => ?_
    refine Ok.bv fun z3 ez3 => ?_
    refine Ok.ck (fun _ => by rw [ey7]; simp) ?_
    refine Ok.bv fun z4 ez4 => ?_
    refine Ok.bv fun z5 ez5 => ?_
    refine Ok.bv fun z6 ez6 => ?_
    refine Ok.sm ?_
    rw [ez6, ez5, ez4, ez3, ez2, ez1, ey7, ey8]
    simp [gel]
  obtain ⟨v, h, rfl⟩ := key
  exact h
theorem EvalBooleans_true (l : List Bool) (a : Int) : reckonerlaw13_EvalBooleans l a = some true := by
  have key : Ok (reckonerlaw13_EvalBooleans l a) (fun v => v = true) := by
    unfold reckonerlaw13_EvalBooleans
    rw [fit_true]
    refine Ok.os fun y1 e1 => ?_
    refine Ok.bv fun z1 ez1 => ?_
    refine Ok.it (fun h => by rw [ez1, e1] at h; cases h) fun _ => ?_
    refine Ok.bv fun z2 ez2 => ?_
    refine Ok.bv fun z3 ez3 => ?_
    refine Ok.bv fun z4 ez4 => ?_
    refine Ok.it (fun _ => Ok.sm rfl) fun h9 => ?_
    have hl9 : 1 ≤ l.length ∧ l.length ≤ 9 := by
      rw [ez4, ez2, ez3] at h9
      simp at h9
      refine ⟨?_, by omega⟩
      rcases Nat.eq_zero_or_pos l.length with h | h
      · exact absurd (List.length_eq_zero_iff.1 h) h9.1
      · exact h
    have hP : reckonerlaw13_Place [] = some zeroPl := by
      unfold reckonerlaw13_Place
      simp only [bindv]
      rw [KKs]
      simp [loopF]
    rw [hP]
    refine Ok.os fun p0 ep0 => ?_
    refine Ok.bv fun J13 e13 => ?_
    refine Ok.bv fun B61 e61 => ?_
    refine Ok.lp (fun s => ∃ i : Nat, s.1 = (i : Int) ∧ i ≤ l.length ∧ s.2.1.length = i ∧ s.2.2.length = 128 ∧ (l.length ≤ 8 → ∀ j : Nat, j < i → gel s.2.1 (j : Int) = cellN ⟨0, 0, (j : Int)⟩ ∧ gel s.2.2 (8 * (j : Int)) = bV (gel l (j : Int)))) (fun s => l.length - s.1.toNat) ⟨0, rfl, Nat.zero_le _, rfl, by rw [ep0]; exact zeroPl_len, fun _ j hj => absurd hj (Nat.not_lt_zero j)⟩ (by simp; omega) ?_
    rintro s ⟨i, h1, h2, h3, h4, h5⟩ next hn
    rw [e61]
    refine Ok.bv fun z5 ez5 => ?_
    refine Ok.it (fun h => ?_) fun h => ?_
    · rw [ez5, h1] at h
      have hi : i < l.length := by simpa using h
      refine Ok.ck (by rw [h1]; omega) ?_
      refine Ok.bv fun b eb => ?_
      rw [h1] at eb
      refine Ok.bv fun z6 ez6 => ?_
      have e6 : z6 = 8 * (i : Int) := by rw [ez6, h1]; exact (wI64 rfl).2 (by omega)
      refine Ok.bv fun z7 ez7 => ?_
      have e7 : z7 = (8 * (i : Int)) % 64 := by rw [ez7, e6]; exact Int.tmod_eq_emod_of_nonneg (by omega)
      rw [bool_eq]
      refine Ok.os fun v ev => ?_
      refine Ok.ck (by omega) ?_
      refine Ok.bv fun p ep => ?_
      refine Ok.bv fun z8 ez8 => ?_
      have e8 : z8 = (i : Int) % 8 := by rw [ez8, h1]; exact Int.tmod_eq_emod_of_nonneg (by omega)
      have hC : tree_Cell ⟨⟨0, 0, z8⟩, false, false⟩ = some (cellN ⟨0, 0, z8⟩) := rfl
      rw [hC]
      refine Ok.os fun n en => ?_
      refine Ok.ck (by simp only [List.length_cons, List.length_nil]; omega) ?_
      refine Ok.bv fun ns ens => ?_
      refine Ok.bv fun z9 ez9 => ?_
      have e9 : z9 = ((i + 1 : Nat) : Int) := by
        rw [ez9, h1]
        have := (wI64 (z := IntKind.wrap .i64 ((i : Int) + 1)) rfl).2 (by omega)
        rw [this]
        simp
      refine hn _ ⟨i + 1, e9, hi, by rw [ens]; simp [h3], by rw [ep]; simp [h4], fun hl j hj => ?_⟩ (by simp only [e9, h1]; omega)
      have hi8 : i < 8 := by omega
      have e7' : (Int.toNat (64 * 0 + z7)) = 8 * i := by rw [e7]; omega
      have e8' : z8 = (i : Int) := by rw [e8]; omega
      rw [e7'] at ep
      rw [en, e8'] at ens
      by_cases hji : j < i
      · obtain ⟨h6, h7⟩ := h5 hl j hji
        refine ⟨?_, ?_⟩
        · rw [← h6, ens]
          unfold gel
          rw [List.getD_eq_getElem?_getD, List.getD_eq_getElem?_getD, List.getElem?_append_left (by simp; omega)]
        · rw [← h7, ep]
          unfold gel
          rw [List.getD_eq_getElem?_getD, List.getD_eq_getElem?_getD, List.getElem?_set_ne (by omega)]
      · obtain rfl : j = i := by omega
        refine ⟨?_, ?_⟩
        · rw [ens]
          unfold gel
          rw [List.getD_eq_getElem?_getD, List.getElem?_append_right (by simp; omega)]
          simp [h3]
        · rw [ep, ev, eb]
          unfold gel
          have : (8 * (j : Int)).toNat = 8 * j := by omega
          rw [List.getD_eq_getElem?_getD, this, List.getElem?_set_self (by omega)]
          rfl
    · rw [ez5, h1] at h
      have hi : i = l.length := by
        simp at h
        omega
      subst hi
      rw [e13]
      refine Ok.bv fun z6 ez6 => ?_
      refine Ok.it (fun _ => Ok.sm rfl) fun h8 => ?_
      have hl8 : l.length ≤ 8 := by
        rw [ez6] at h8
        simp at h8
        omega
      refine Ok.bv fun J21 e21 => ?_
      refine Ok.bv fun B24 e24 => ?_
      refine Ok.lp (fun s => ∃ q : Nat, s = (q : Int) ∧ q ≤ 2) (fun s => 2 - s.toNat) ⟨0, rfl, by omega⟩ (by simp) ?_
      rintro s2 ⟨q, hq1, hq2⟩ next2 hn2
      rw [e24]
      refine Ok.bv fun z7 ez7 => ?_
      refine Ok.it (fun h => ?_) fun _ => by rw [e21]; exact Ok.sm rfl
      have hq : q < 2 := by
        rw [ez7, hq1] at h
        simp at h
        omega
      refine Ok.ck (by rw [hq1]; simp; omega) ?_
      refine Ok.bv fun op eop => ?_
      have hop : ∃ o : Bool, op = 3 ∧ o = false ∨ op = 4 ∧ o = true := by
        rw [eop, hq1]
        rcases (by omega : q = 0 ∨ q = 1) with rfl | rfl
        · exact ⟨false, .inl ⟨rfl, rfl⟩⟩
        · exact ⟨true, .inr ⟨rfl, rfl⟩⟩
      obtain ⟨o, hop⟩ := hop
      rw [apply_eq _ _ (show s.2.1.length ≤ 4000 by omega)]
      refine Ok.os fun nd end_ => ?_
      have hL := lazy_bool (k := KK - 1) (R := ⟨s.2.2, ⟨2, 0, 0⟩⟩) (args := s.2.1) (v := ⟨0, 0, []⟩) (a := r0) (b := r0) (nm := []) hop hl8 h3 fun j hj m => by
        obtain ⟨h6, h7⟩ := h5 hl8 j hj
        have hk : KK - 1 = (KK - 2) + 1 := by unfold KK; omega
        rw [hk, h6]
        exact ev_cell _ _ _ _ (by rw [at_row (by omega) (by omega) (by omega), ← h7]; congr 1; simp) (by simp) m
      obtain ⟨r, hr, hv, hm⟩ := hL
      have hE : eval_run_eval KK ⟨s.2.2, ⟨2, 0, 0⟩⟩ ⟨8, op, ⟨0, 0, []⟩, r0, r0, [], s.2.1⟩ [] = some r := by
        rw [KKs, ev_fun _ _ _ _ _ _ _ _ _ (by rcases hop with ⟨rfl, _⟩ | ⟨rfl, _⟩ <;> decide), hr]
        rfl
      have hle := askF_le o l 0
      rw [end_, Eval_of hE (by rw [hm, mK_len]; omega)]
      refine Ok.os fun y ey => ?_
      have hyv : y.v = bV (askF o l 0).1 := by rw [ey]; exact hv
      have hyl : y.l.length = (askF o l 0).2 := by rw [ey, srtK_len, hm, mK_len]
      refine Ok.bv fun z8 ez8 => ?_
      have h38 : z8 = !o := by rw [ez8]; rcases hop with ⟨rfl, rfl⟩ | ⟨rfl, rfl⟩ <;> simp
      refine Ok.bv fun J39 e39 => ?_
      have hJ : Ok (J39 ((askF o l 0).1, ((askF o l 0).2 : Int))) (fun v => v = true) := by
        rw [e39]
        dsimp only
        rw [bool_eq]
        refine Ok.os fun y2 ey2 => ?_
        refine Ok.bv fun z9 ez9 => ?_
        refine Ok.bv fun z10 ez10 => ?_
        refine Ok.bv fun z11 ez11 => ?_
        have : z11 = false := by rw [ez11, ez9, ez10, hyv, hyl, ey2]; simp
        rw [this]
        refine Ok.it (fun h => by cases h) fun _ => ?_
        refine Ok.bv fun z12 ez12 => ?_
        have e12 : z12 = ((q + 1 : Nat) : Int) := by
          rw [ez12, hq1]
          have := (wI64 (z := IntKind.wrap .i64 ((q : Int) + 1)) rfl).2 (by omega)
          rw [this]
          simp
        exact hn2 _ ⟨q + 1, e12, by omega⟩ (by rw [e12, hq1]; omega)
      refine Ok.bv fun B47 e47 => ?_
      refine Ok.lp (fun s => ∃ i : Nat, s.2.2 = (i : Int) ∧ i ≤ l.length ∧ s.2.1 = (i : Int) ∧ s.1 = (!o) ∧ askF o (l.drop i) i = askF o l 0) (fun s => l.length - s.2.2.toNat) ⟨0, rfl, Nat.zero_le _, rfl, h38, rfl⟩ (by simp; omega) ?_
      rintro s3 ⟨i, k1, k2, k3, k4, k5⟩ next3 hn3
      rw [e47]
      refine Ok.bv fun z9 ez9 => ?_
      refine Ok.it (fun h => ?_) fun h => ?_
      · rw [ez9, k1] at h
        have hi : i < l.length := by simpa using h
        refine Ok.ck (by rw [k1]; omega) ?_
        refine Ok.bv fun b eb => ?_
        rw [k1] at eb
        refine Ok.bv fun z10 ez10 => ?_
        have e10 : z10 = ((i + 1 : Nat) : Int) := by
          rw [ez10, k3]
          have := (wI64 (z := IntKind.wrap .i64 ((i : Int) + 1)) rfl).2 (by omega)
          rw [this]
          simp
        refine Ok.bv fun z11 ez11 => ?_
        have e11 : z11 = o := by rw [ez11]; rcases hop with ⟨rfl, rfl⟩ | ⟨rfl, rfl⟩ <;> simp
        refine Ok.bv fun z12 ez12 => ?_
        refine Ok.it (fun h => ?_) fun h => ?_
        · rw [ez12, e11, eb] at h
          have h6 := ask_stop hi h i
          rw [k5] at h6
          rw [h6] at hJ
          rw [eb, e10]
          exact hJ
        · rw [ez12, e11, eb] at h
          refine Ok.bv fun z13 ez13 => ?_
          have e13 : z13 = ((i + 1 : Nat) : Int) := by
            rw [ez13, k1]
            have := (wI64 (z := IntKind.wrap .i64 ((i : Int) + 1)) rfl).2 (by omega)
            rw [this]
            simp
          exact hn3 _ ⟨i + 1, e13, hi, e10, k4, by rw [← k5, ask_on hi h]⟩ (by simp only [e13, k1]; omega)
      · rw [ez9, k1] at h
        have hi : l.length ≤ i := by simpa using h
        have h6 := ask_end (o := o) hi i
        rw [k5] at h6
        rw [h6] at hJ
        rw [k4, k3]
        exact hJ
  obtain ⟨v, h, rfl⟩ := key
  exact h
end Go.Sp
