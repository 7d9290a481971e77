/- Joined texts. -/
import Derived.Lib.ItoaNum
import Derived.Laws.RangeAny
import Derived.Lib.SplitLaws
import Derived.Test.YtcecjdnkcbfhlaaGreatDoorXL0
import Derived.Test.YtcecjdnkcbfhlaaGreatDoorXS0
import Derived.Test.YtcecjdnkcbfhlaaGreatDoorXU0
set_option linter.unusedSimpArgs false
set_option linter.unusedVariables false
set_option linter.unusedSectionVars false
section
namespace Go.Sp
theorem BL : (∀ (p : Prop) [Decidable p], (decide p = true) = p) ∧ (∀ (p : Prop) [Decidable p], (decide p = false) ↔ ¬p) ∧ (∀ a b : Bool, ((a || b) = true) = (a = true ∨ b = true)) ∧ (∀ a b : Bool, ((a && b) = true) = (a = true ∧ b = true)) ∧ (∀ a b : Bool, ((a || b) = false) ↔ a = false ∧ b = false) ∧ (∀ a b : Bool, ((a && b) = false) ↔ a = false ∨ b = false) ∧ (∀ b : Bool, ((!b) = true) ↔ b = false) ∧ (∀ b : Bool, ((!b) = false) ↔ b = true) ∧ (∀ a b : Bool, ((!a) = b) ↔ a = !b) ∧ ((!true) = false) ∧ ((!false) = true) ∧ (∀ (α : Type) (a b : α), (a ≠ b) = ¬ (a = b)) ∧ (∀ (p : Prop) [Decidable p] [Decidable (¬ p)], decide (¬ p) = !decide p) :=
  ⟨fun p _ => decide_eq_true_eq, fun p _ => decide_eq_false_iff_not, fun a b => by cases a <;> cases b <;> simp, fun a b => by cases a <;> cases b <;> simp, fun a b => by cases a <;> cases b <;> simp, fun a b => by cases a <;> cases b <;> simp, fun b => by cases b <;> simp, fun b => by cases b <;> simp, fun a b => by cases a <;> cases b <;> simp, rfl, rfl, fun _ _ _ => rfl, fun p _ _ => decide_not⟩
theorem dT {p : Prop} [Decidable p] : (decide p = true) = p := decide_eq_true_eq
theorem dF {p : Prop} [Decidable p] : (decide p = false) ↔ ¬ p := decide_eq_false_iff_not
theorem bA (a b : Bool) : ((a && b) = true) = (a = true ∧ b = true) := Bool.and_eq_true a b
open Go.Stp
section
variable {α β σ ρ : Type}
def Ok (x : Option α) (P : α → Prop) : Prop := ∃ v, x = some v ∧ P v
theorem Ok.bv {x : α} {f : α → Option β} {P : β → Prop} (h : ∀ z, z = x → Ok (f z) P) : Ok (bindv x f) P := h x rfl
theorem Ok.ck {p : Prop} [Decidable p] {A : Option β} {P : β → Prop} (hp : p) (h : Ok A P) : Ok (chk p A) P := by
 unfold chk
 rw [if_pos hp]
 exact h
theorem Ok.ckf {p : Prop} [Decidable p] {A : Option β} {P : β → Prop} (hp : p) (h : p → Ok A P) : Ok (chk p A) P := Ok.ck hp (h hp)
theorem Ok.ob {x : Option α} {f : α → Option β} {P : β → Prop} {R : α → Prop} (h : Ok x R) (k : ∀ y, x = some y → R y → Ok (f y) P) : Ok (obind x f) P := by
 obtain ⟨y, hy, hr⟩ := h
 have := k y hy hr
 rw [hy]
 exact this
theorem Ok.os {v : α} {f : α → Option β} {P : β → Prop} (k : ∀ y, y = v → Ok (f y) P) : Ok (obind (some v) f) P := k v rfl
theorem Ok.it {b : Bool} {A B : Option β} {P : β → Prop} (h1 : b = true → Ok A P) (h2 : b = false → Ok B P) : Ok (if b = true then A else B) P := by
 cases b with
 | true => rw [if_pos rfl]; exact h1 rfl
 | false => rw [if_neg Bool.false_ne_true]; exact h2 rfl
theorem Ok.sm {v : β} {P : β → Prop} (h : P v) : Ok (some v) P := ⟨v, rfl, h⟩
theorem Ok.mono {x : Option α} {P R : α → Prop} (h : Ok x P) (k : ∀ v, P v → R v) : Ok x R := by
 obtain ⟨v, h1, h2⟩ := h
 exact ⟨v, h1, k v h2⟩
theorem Ok.of {x : Option α} {v : α} {P : α → Prop} (h : x = some v) (hp : P v) : Ok x P := ⟨v, h, hp⟩
theorem Ok.lpk {B : (σ → Option ρ) → σ → Option ρ} {P : ρ → Prop} (I : σ → Prop) (μ : σ → Nat) (step : ∀ s, I s → ∀ next : σ → Option ρ, (∀ s', I s' → μ s' < μ s → Ok (next s') P) → Ok (B next s) P) : ∀ (K : Nat) (s : σ), I s → μ s < K → Ok (loopF B K s) P
 | 0, s, _, h => by omega
 | K + 1, s, hI, h => step s hI (loopF B K) fun s' hI' hm => Ok.lpk I μ step K s' hI' (by omega)
theorem Ok.lp {B : (σ → Option ρ) → σ → Option ρ} {P : ρ → Prop} (I : σ → Prop) (μ : σ → Nat) {s : σ} (h0 : I s) (hm : μ s < 1208925819614629174706176) (step : ∀ s, I s → ∀ next : σ → Option ρ, (∀ s', I s' → μ s' < μ s → Ok (next s') P) → Ok (B next s) P) : Ok (loopF B KK s) P :=
 Ok.lpk I μ step KK s h0 (by unfold KK; omega)
end
theorem wI64 {z E : Int} (e : z = IntKind.wrap .i64 E) : (-9223372036854775808 ≤ z ∧ z ≤ 9223372036854775807) ∧ (-9223372036854775808 ≤ E ∧ E ≤ 9223372036854775807 → z = E) := by
 simp [IntKind.wrap, IntKind.bits, IntKind.signed] at e
 split at e <;> omega
theorem wU64 {z E : Int} (e : z = IntKind.wrap .u64 E) : (0 ≤ z ∧ z ≤ 18446744073709551615) ∧ (0 ≤ E ∧ E ≤ 18446744073709551615 → z = E) := by
 simp [IntKind.wrap, IntKind.bits, IntKind.signed] at e
 omega
theorem wU8 {z E : Int} (e : z = IntKind.wrap .u8 E) : (0 ≤ z ∧ z ≤ 255) ∧ (0 ≤ E ∧ E ≤ 255 → z = E) := by
 simp [IntKind.wrap, IntKind.bits, IntKind.signed] at e
 omega
theorem tmod_bd (a : Int) {c : Int} (hc : 0 < c) : -c < a.tmod c ∧ a.tmod c < c ∧ a = c * a.tdiv c + a.tmod c ∧ (0 ≤ a → 0 ≤ a.tmod c) ∧ (a ≤ 0 → a.tmod c ≤ 0) := by
 refine ⟨?_, Int.tmod_lt_of_pos a hc, (Int.mul_tdiv_add_tmod a c).symm, fun h => Int.tmod_nonneg c h, fun h => ?_⟩
 · have := Int.lt_tmod_of_pos a hc
   omega
 · have := Int.tmod_nonneg c (show 0 ≤ -a by omega)
   rw [Int.neg_tmod] at this
   omega
theorem gel_mem {α : Type} [Inhabited α] {l : List α} {i : Int} (h : 0 ≤ i ∧ i < (l.length : Int)) : gel l i ∈ l := List.mem_of_getElem? (gel_some h)
theorem gelP {α : Type} [Inhabited α] {l : List α} {i : Int} {z : α} {P : α → Prop} (h : ∀ x ∈ l, P x) (e : z = gel l i) (hi : 0 ≤ i ∧ i < (l.length : Int)) : P z := by
 rw [e]
 exact h _ (gel_mem hi)
end Go.Sp
end
section
namespace Go.Sp
open Go.Stp Go.ValP
theorem ev_step (k : Nat) (r : Rn) (n : Nd) (m : List (C × Bool)) : eval_run_eval (k + 1) r n m = eval_run_eval_B (eval_run_eval k) r n m := rfl
abbrev bV (b : Bool) : V := ⟨3, if b = true then 1 else 0, []⟩
theorem bool_eq (b : Bool) : value_Bool b = some (bV b) := by cases b <;> simp [value_Bool, bindv]
theorem toBool_b (b : Bool) : value_ToBool (bV b) = some (bV b) := by cases b <;> simp [value_ToBool, bindv]
abbrev r0 : Rf := ⟨⟨0, 0, 0⟩, false, false⟩
abbrev cellN (c : C) : Nd := ⟨2, 0, ⟨0, 0, []⟩, ⟨c, false, false⟩, r0, [], []⟩
theorem ev_lit (k : Nat) (R : Rn) (v : V) (m : List (C × Bool)) : eval_run_eval (k + 1) R ⟨1, 0, v, r0, r0, [], []⟩ m = some (⟨v, R.c⟩, m) := by
 rw [ev_step]
 simp [eval_run_eval_B, bindv, obind, eval_run_made]
theorem ev_cell (k : Nat) (R : Rn) (c : C) (v : V) (hv : reckonerref13_Place_At R.p c = some v) (hk : v.k ≠ 4) (m : List (C × Bool)) : eval_run_eval (k + 1) R (cellN c) m = some (⟨v, ⟨0, 0, 0⟩⟩, mput m c true) := by
 rw [ev_step]
 simp [eval_run_eval_B, bindv, obind, eval_Area, eval_run_cell, reckonerref13_Place_Value, hv, hk]
theorem at_row {p : List V} {s c i : Int} (hs : 0 ≤ s ∧ s < 2) (hc : 0 ≤ c ∧ c < 8) (hi : 0 ≤ i ∧ i < 8) : reckonerref13_Place_At p ⟨s, c, i⟩ = some (gel p (64 * s + (8 * i + c))) := by
 have e1 : IntKind.wrap .i64 (8 * i) = 8 * i := (wI64 rfl).2 (by omega)
 have e2 : IntKind.wrap .i64 (8 * i + c) = 8 * i + c := (wI64 rfl).2 (by omega)
 simp only [reckonerref13_Place_At, bindv, e1, e2]
 rw [if_neg (by simp; omega)]
 simp only [chk]
 rw [if_pos hs, if_pos (by omega)]
theorem ev_fun (k : Nat) (R : Rn) (op : Int) (v : V) (a b : Rf) (nm : List UInt8) (l : List Nd) (m : List (C × Bool)) (hop : op ≤ 5) : eval_run_eval (k + 1) R ⟨8, op, v, a, b, nm, l⟩ m = obind (eval_run_lazy (eval_run_eval k) R ⟨8, op, v, a, b, nm, l⟩ m) fun y => some (y.1, y.2) := by
 rw [ev_step]
 simp [eval_run_eval_B, bindv, hop]
theorem srtK_len (m : List (C × Bool)) : (srtK m).length = m.length := by
 unfold srtK
 rw [(cellSort_perm _).length_eq, List.length_map]
theorem Eval_of {n : Nd} {self : C} {p : List V} {r : Gt × List (C × Bool)} (h : eval_run_eval KK ⟨p, self⟩ n [] = some r) (hm : r.2.length ≤ 4000) : eval_Eval n self p = some ⟨r.1.v, if r.1.v.k = 4 then r.1.c else ⟨0, 0, 0⟩, srtK r.2⟩ := by
 unfold eval_Eval
 rw [h]
 simp only [obind, bindv, chk]
 by_cases hk : r.1.v.k = 4
 · rw [if_pos (show decide (r.1.v.k = 4) = true by simpa using hk), if_pos (by omega), if_pos hk]
 · rw [if_neg (show ¬ decide (r.1.v.k = 4) = true by simpa using hk), if_pos (by omega), if_neg hk]
theorem apply_eq (op : Int) (l : List Nd) (hl : l.length ≤ 4000) : tree_Apply op l = some ⟨8, op, ⟨0, 0, []⟩, r0, r0, [], l⟩ := by
 unfold tree_Apply
 simp only [chk, bindv, List.nil_append, List.length_nil, Nat.zero_add]
 rw [if_pos (by omega)]
theorem fit_at : reckonerref13_Place_At (zeroPl.set 0 (⟨1, 5, []⟩ : V)) ⟨0, 0, 0⟩ = some ⟨1, 5, []⟩ := by
 rw [at_row (by omega) (by omega) (by omega)]
 simp [gel, zeroPl]
theorem fit_E (k : Nat) : eval_run_eval (k + 1 + 1) ⟨zeroPl.set 0 (⟨1, 5, []⟩ : V), ⟨0, 0, 0⟩⟩ ⟨8, 1, ⟨0, 0, []⟩, r0, r0, [], [⟨1, 0, bV true, r0, r0, [], []⟩, cellN ⟨0, 0, 0⟩, cellN ⟨0, 1, 0⟩]⟩ [] = some (⟨⟨1, 5, []⟩, ⟨0, 0, 0⟩⟩, [(⟨0, 0, 0⟩, true)]) := by
 rw [ev_fun _ _ _ _ _ _ _ _ _ (by decide)]
 unfold eval_run_lazy eval_run_truth
 have h1 := ev_lit k ⟨zeroPl.set 0 (⟨1, 5, []⟩ : V), ⟨0, 0, 0⟩⟩ (bV true) []
 have h2 := ev_cell k ⟨zeroPl.set 0 (⟨1, 5, []⟩ : V), ⟨0, 0, 0⟩⟩ ⟨0, 0, 0⟩ _ fit_at (by decide) []
 have h3 : mput ([] : List (C × Bool)) ⟨0, 0, 0⟩ true = [(⟨0, 0, 0⟩, true)] := rfl
 rw [h3] at h2
 have g0 : (gel [(⟨1, 0, bV true, r0, r0, [], []⟩ : Nd), cellN ⟨0, 0, 0⟩, cellN ⟨0, 1, 0⟩] 0) = ⟨1, 0, bV true, r0, r0, [], []⟩ := rfl
 have g1 : (gel [(⟨1, 0, bV true, r0, r0, [], []⟩ : Nd), cellN ⟨0, 0, 0⟩, cellN ⟨0, 1, 0⟩] 1) = cellN ⟨0, 0, 0⟩ := rfl
 simp only [bindv, g0, g1, h1, obind, toBool_b, eval_run_made, chk]
 simp
 rw [h2]
theorem KK2 : KK - 2 + 1 + 1 = KK := by
 have : 2 ≤ KK := by unfold KK; omega
 omega
theorem fit_s : srtK [((⟨0, 0, 0⟩ : C), true)] = [⟨0, 0, 0⟩] := by
 unfold srtK cellSort
 simp
theorem fit_EK : eval_run_eval KK ⟨zeroPl.set 0 (⟨1, 5, []⟩ : V), ⟨0, 0, 0⟩⟩ ⟨8, 1, ⟨0, 0, []⟩, r0, r0, [], [⟨1, 0, bV true, r0, r0, [], []⟩, cellN ⟨0, 0, 0⟩, cellN ⟨0, 1, 0⟩]⟩ [] = some (⟨⟨1, 5, []⟩, ⟨0, 0, 0⟩⟩, [(⟨0, 0, 0⟩, true)]) := by
 have h := fit_E (KK - 2)
 rwa [KK2] at h
theorem fit_EE : eval_Eval ⟨8, 1, ⟨0, 0, []⟩, r0, r0, [], [⟨1, 0, bV true, r0, r0, [], []⟩, cellN ⟨0, 0, 0⟩, cellN ⟨0, 1, 0⟩]⟩ ⟨0, 0, 0⟩ (zeroPl.set 0 (⟨1, 5, []⟩ : V)) = some ⟨⟨1, 5, []⟩, ⟨0, 0, 0⟩, [⟨0, 0, 0⟩]⟩ := by
 have h := Eval_of fit_EK (by simp)
 rw [fit_s] at h
 rw [h]
 simp
theorem fit_true : reckonerlaw13_fit = some true := by
 have e1 : value_Num 5 = some ⟨1, 5, []⟩ := rfl
 have e2 : ∀ v, tree_Value v = some ⟨1, 0, v, r0, r0, [], []⟩ := fun _ => rfl
 have e3 : ∀ c : C, tree_Cell ⟨c, false, false⟩ = some (cellN c) := fun _ => rfl
 have key : Ok reckonerlaw13_fit (fun v => v = true) := by
  unfold reckonerlaw13_fit
  rw [e1]
  refine Ok.os fun y1 ey1 => ?_
  refine Ok.bv fun p ep => ?_
  rw [bool_eq]
  refine Ok.os fun y2 ey2 => ?_
  rw [e2]
  refine Ok.os fun y3 ey3 => ?_
  rw [e3]
  refine Ok.os fun y4 ey4 => ?_
  rw [e3]
  refine Ok.os fun y5 ey5 => ?_
  rw [apply_eq _ _ (by simp)]
  refine Ok.os fun y6 ey6 => ?_
  have hE : eval_Eval y6 ⟨0, 0, 0⟩ p = some ⟨⟨1, 5, []⟩, ⟨0, 0, 0⟩, [⟨0, 0, 0⟩]⟩ := by
   rw [ey6, ey5, ey4, ey3, ey2, ep, ey1]
   exact fit_EE
  rw [hE]
  refine Ok.os fun y7 ey7 => ?_
  refine Ok.os fun y8 ey8 => ?_
  refine Ok.bv fun z1 ez1 => ?_
  refine Ok.bv fun z2 ez2 => ?_
  refine Ok.bv fun z3 ez3 => ?_
  refine Ok.ck (fun _ => by rw [ey7]; simp) ?_
  refine Ok.bv fun z4 ez4 => ?_
  refine Ok.bv fun z5 ez5 => ?_
  refine Ok.bv fun z6 ez6 => ?_
  refine Ok.sm ?_
  rw [ez6, ez5, ez4, ez3, ez2, ez1, ey7, ey8]
  simp [gel]
 obtain ⟨v, h, rfl⟩ := key
 exact h
end Go.Sp
end
section
namespace Go.Sp
open Go.Stp Go.ValP
theorem bitLen_bd {x : Nat} (h : x < 18446744073709551616) (h0 : x ≠ 0) : 1 ≤ Lib.bitLen x ∧ Lib.bitLen x ≤ 64 ∧ 2 ^ (Lib.bitLen x - 1) ≤ x ∧ x < 2 ^ Lib.bitLen x := by
 obtain ⟨h1, h2, h3⟩ := Lib.bitLenAux_bounds 64 x h h0
 exact ⟨h1, Lib.bitLen_le x 64 (Nat.le_refl _) h, h2, h3⟩
theorem shl_norm {y z : Int} (h : 0 < y ∧ y ≤ 18446744073709551615) (e : z = shlI .u64 y (64 - (Lib.bitLen y.toNat : Int))) : 9223372036854775808 ≤ z ∧ z ≤ 18446744073709551615 := by
 obtain ⟨Y, rfl⟩ := Int.eq_ofNat_of_zero_le (show 0 ≤ y by omega)
 obtain ⟨b1, b2, b3, b4⟩ := bitLen_bd (x := Y) (by omega) (by omega)
 rw [Int.toNat_natCast] at e
 generalize Lib.bitLen Y = b at *
 have e2 : min (64 - (b : Int)).toNat (IntKind.u64.bits) = 64 - b := by
  have : IntKind.u64.bits = 64 := rfl
  rw [this]
  omega
 unfold shlI at e
 rw [e2] at e
 have e3 : (2 : Nat) ^ (b - 1) * 2 ^ (64 - b) = 2 ^ 63 := by rw [← Nat.pow_add]; congr 1; omega
 have e4 : (2 : Nat) ^ b * 2 ^ (64 - b) = 2 ^ 64 := by rw [← Nat.pow_add]; congr 1; omega
 have h5 : 2 ^ 63 ≤ Y * 2 ^ (64 - b) := by rw [← e3]; exact Nat.mul_le_mul_right _ b3
 have h6 : Y * 2 ^ (64 - b) < 2 ^ 64 := by rw [← e4]; exact Nat.mul_lt_mul_of_pos_right b4 (Nat.pow_pos (by decide))
 have e7 : ((Y : Int) * 2 ^ (64 - b)) = ((Y * 2 ^ (64 - b) : Nat) : Int) := by simp
 rw [e7] at e
 have w := wU64 e
 have := w.2 (by omega)
 omega
theorem shr32 {z x : Int} (h : 0 ≤ x) (e : z = shrI .u64 x 32) : z = x / 4294967296 := by
 subst e
 unfold shrI
 have : min (32 : Int).toNat (IntKind.u64.bits) = 32 := rfl
 rw [this, Int.fdiv_eq_ediv_of_nonneg _ (by decide)]
 rfl
theorem shr_nn {z x q : Int} (h : 0 ≤ x ∧ x ≤ 18446744073709551615) (e : z = shrI .u64 x q) : 0 ≤ z ∧ z ≤ 18446744073709551615 := by
 subst e
 unfold shrI
 have hp : (0 : Int) < 2 ^ (min q.toNat (IntKind.u64.bits)) := Int.pow_pos (by decide)
 rw [Int.fdiv_eq_ediv_of_nonneg _ (by omega)]
 refine ⟨Int.ediv_nonneg h.1 (by omega), Int.le_trans (Int.ediv_le_self _ h.1) h.2⟩
theorem bits_Div64_tot (x0 x1 x2 : Int) (h0 : 0 ≤ x0 ∧ x0 < x2) (h1 : 0 ≤ x1 ∧ x1 ≤ 18446744073709551615) (h2 : x2 ≤ 18446744073709551615) :
 Ok (bits_Div64 x0 x1 x2) (fun r => (0 ≤ r.1 ∧ r.1 ≤ 18446744073709551615) ∧ 0 ≤ r.2 ∧ r.2 ≤ 18446744073709551615) := by
 unfold bits_Div64
 refine Ok.bv fun J2 eJ2 => Ok.bv fun z0 ez0 => Ok.it (fun e => ?_) (fun _ => ?_)
 · rw [ez0] at e; simp at e; omega
 rw [eJ2]
 refine Ok.bv fun J4 eJ4 => Ok.bv fun z1 ez1 => Ok.it (fun e => ?_) (fun _ => ?_)
 · rw [ez1] at e; simp at e; omega
 rw [eJ4]
 refine Ok.bv fun z2 ez2 => Ok.it (fun e => ?_) (fun e => ?_)
 · refine Ok.ck (by omega) (Ok.bv fun q eq => Ok.ck (by omega) (Ok.bv fun r er => Ok.sm ?_))
   have := wU64 eq
   have t := tmod_bd x1 (c := x2) (by omega)
   have := t.2.2.2.1 h1.1
   exact ⟨(wU64 eq).1, by omega⟩
 refine Ok.ck (by omega) (Ok.bv fun s es => Ok.bv fun s' es' => ?_)
 obtain ⟨b1, b2, b3, b4⟩ := bitLen_bd (x := x2.toNat) (by omega) (by omega)
 have w := wU64 es'
 have hs : s' = 64 - (Lib.bitLen x2.toNat : Int) := by rw [w.2 (by omega), es]
 refine Ok.ck (by omega) (Ok.bv fun y ey => Ok.ck (by decide) (Ok.bv fun yn1 eyn1 => Ok.bv fun yn0 eyn0 => Ok.ck (by omega) (Ok.bv fun z46 e46 => Ok.bv fun z49 e49 => ?_)))
 rw [hs] at ey
 have hy := shl_norm (by omega) ey
 have hyn1 := shr32 (by omega) eyn1
 have w49 := wU64 e49
 have h49 := w49.2 (by omega)
 refine Ok.ck (by omega) (Ok.bv fun z50 e50 => Ok.bv fun un32 e51 => Ok.ck (by omega) (Ok.bv fun un10 e54 => Ok.ck (by decide) (Ok.bv fun un1 e56 => Ok.bv fun un0 e58 => Ok.ck (by omega) (Ok.bv fun q1 eq1 => Ok.bv fun z65 e65 => Ok.bv fun rh erh => ?_))))
 refine Ok.bv fun J37 eJ37 => ?_
 have hJ : ∀ q, Ok (J37 q) (fun r => (0 ≤ r.1 ∧ r.1 ≤ 18446744073709551615) ∧ 0 ≤ r.2 ∧ r.2 ≤ 18446744073709551615) := by
  intro q
  rw [eJ37]
  refine Ok.bv fun z87 e87 => Ok.bv fun z89 e89 => Ok.bv fun z92 e92 => Ok.bv fun z93 e93 => Ok.ck (by omega) (Ok.bv fun q0 eq0 => Ok.bv fun z100 e100 => Ok.bv fun rh2 erh2 => Ok.bv fun J47 eJ47 => ?_)
  have hJ2 : ∀ q', Ok (J47 q') (fun r => (0 ≤ r.1 ∧ r.1 ≤ 18446744073709551615) ∧ 0 ≤ r.2 ∧ r.2 ≤ 18446744073709551615) := by
   intro q'
   rw [eJ47]
   refine Ok.bv fun a1 ea1 => Ok.bv fun a2 ea2 => Ok.bv fun a3 ea3 => Ok.bv fun a4 ea4 => Ok.bv fun a5 ea5 => Ok.bv fun a6 ea6 => Ok.ck (by omega) (Ok.bv fun a7 ea7 => Ok.sm ⟨(wU64 ea2).1, shr_nn (wU64 ea6).1 ea7⟩)
  refine Ok.bv fun B eB => ?_
  subst eB
  refine Ok.lp (fun s => 0 ≤ s.1 ∧ s.1 ≤ 18446744073709551615) (fun s => if s.1 < 4294967296 then (4294967296 - s.1).toNat else 4294967297) (wU64 erh2).1 (by have := (wU64 erh2).1; simp only; split <;> omega) fun s hI next ih => ?_
  refine Ok.bv fun c1 ec1 => Ok.bv fun c2 ec2 => Ok.bv fun c3 ec3 => Ok.bv fun c4 ec4 => Ok.bv fun c5 ec5 => Ok.bv fun c6 ec6 => Ok.it (fun _ => ?_) (fun _ => hJ2 _)
  refine Ok.bv fun d1 ed1 => Ok.bv fun d2 ed2 => Ok.bv fun d3 ed3 => Ok.it (fun _ => hJ2 _) (fun e => ?_)
  rw [ed3] at e
  simp at e
  have wd := wU64 ed2
  refine ih _ wd.1 ?_
  simp only
  rw [if_pos e]
  split
  · have := wd.2 (by omega); omega
  · omega
 refine Ok.bv fun B eB => ?_
 subst eB
 refine Ok.lp (fun s => 0 ≤ s.2 ∧ s.2 ≤ 18446744073709551615) (fun s => if s.2 < 4294967296 then (4294967296 - s.2).toNat else 4294967297) (wU64 erh).1 (by have := (wU64 erh).1; simp only; split <;> omega) fun s hI next ih => ?_
 refine Ok.bv fun c1 ec1 => Ok.bv fun c2 ec2 => Ok.bv fun c3 ec3 => Ok.bv fun c4 ec4 => Ok.bv fun c5 ec5 => Ok.bv fun c6 ec6 => Ok.it (fun _ => ?_) (fun _ => hJ _)
 refine Ok.bv fun d1 ed1 => Ok.bv fun d2 ed2 => Ok.bv fun d3 ed3 => Ok.it (fun _ => hJ _) (fun e => ?_)
 rw [ed3] at e
 simp at e
 have wd := wU64 ed2
 refine ih _ wd.1 ?_
 simp only
 rw [if_pos e]
 split
 · have := wd.2 (by omega); omega
 · omega
end Go.Sp
end
section
namespace Go.Sp
open Go.Stp Go.ValP
theorem width1 (s : ByteArray) (pos : Nat) (h : pos < s.size) : 1 ≤ (Utf8.decode s pos).2 := by
 by_cases ha : (s[pos]'h).toNat < 128
 · rw [Go.decode_ascii s pos h ha]
   exact Nat.le_refl _
 · exact (Go.decode_high s pos h (by omega)).2
theorem nextP_gt {l : List UInt8} {p : Nat} (h : p < l.length) : p < nextP l p := by
 unfold nextP
 rw [if_pos h]
 have := width1 ⟨l.toArray⟩ p h
 omega
theorem num_abs_tot {x : Int} (h : -9223372036854775808 ≤ x ∧ x ≤ 9223372036854775807) : Ok (num_abs x) (fun y => (x < 0 → y = -x) ∧ (0 ≤ x → y = x)) := by
 unfold num_abs
 refine Ok.bv fun z ez => Ok.it (fun e => Ok.bv fun a ea => Ok.bv fun b eb => Ok.sm ?_) (fun e => Ok.bv fun a ea => Ok.sm ?_)
 · simp [ez] at e
   have wb := wU64 eb
   simp [IntKind.wrap, IntKind.bits, IntKind.signed] at ea eb
   omega
 · simp [ez] at e
   have := (wU64 ea).2
   omega
theorem num_signed_tot {x : Int} {b : Bool} (h : 0 ≤ x ∧ x ≤ 18446744073709551615) : Ok (num_signed x b) (fun r => -9223372036854775807 ≤ r.1 ∧ r.1 ≤ 9223372036854775807) := by
 unfold num_signed
 refine Ok.bv fun z ez => Ok.it (fun e => Ok.sm ⟨by decide, by decide⟩) (fun e => ?_)
 simp [ez] at e
 refine Ok.it (fun _ => Ok.bv fun a ea => Ok.bv fun c ec => Ok.sm ?_) (fun _ => Ok.bv fun a ea => Ok.sm ?_)
 · have h1 := (wI64 ea).2 (by omega)
   have h2 := (wI64 ec).2 (by omega)
   simp only
   omega
 · have h1 := (wI64 ea).2 (by omega)
   simp only
   omega
theorem num_Add_tot (x y : Int) : Ok (num_Add x y) (fun r => r.2 = true → -9223372036854775807 ≤ r.1 ∧ r.1 ≤ 9223372036854775807) := by
 unfold num_Add num_fits
 refine Ok.bv fun z ez => Ok.ob (R := fun b => b = true → -9223372036854775807 ≤ z) (Ok.bv fun c ec => Ok.sm fun e => by simp [ec] at e; exact e) fun b eb hb => Ok.bv fun z1 e1 => Ok.bv fun z2 e2 => Ok.bv fun z3 e3 => Ok.bv fun z4 e4 => Ok.sm fun e => ?_
 simp only at e
 rw [e4] at e
 simp at e
 exact ⟨hb e.1, (wI64 ez).1.2⟩
theorem num_Sub_tot (x y : Int) : Ok (num_Sub x y) (fun r => r.2 = true → -9223372036854775807 ≤ r.1 ∧ r.1 ≤ 9223372036854775807) := by
 unfold num_Sub
 exact Ok.bv fun z ez => Ok.ob (num_Add_tot x z) fun b eb hb => Ok.sm hb
theorem num_scaled_tot {x y c : Int} (hx : 0 ≤ x ∧ x ≤ 18446744073709551615) (hy : 0 ≤ y ∧ y ≤ 18446744073709551615) (hc : 0 < c ∧ c ≤ 18446744073709551615) :
 Ok (num_scaled x y c) (fun r => 0 ≤ r.1 ∧ r.1 ≤ 18446744073709551615) := by
 unfold num_scaled
 refine Ok.ck ⟨hx, hy⟩ (Ok.bv fun z ez => Ok.bv fun b eb => Ok.it (fun _ => Ok.sm ⟨by decide, by decide⟩) (fun e => ?_))
 simp [eb] at e
 have h1 : 0 ≤ z.1 := by rw [ez]; exact Int.ediv_nonneg (Int.mul_nonneg hx.1 hy.1) (by decide)
 have h2 : 0 ≤ z.2 ∧ z.2 ≤ 18446744073709551615 := by rw [ez]; simp only; omega
 refine Ok.ob (bits_Div64_tot z.1 z.2 c ⟨h1, e⟩ h2 hc.2) fun r er hr => Ok.bv fun J eJ => ?_
 have hJ : ∀ s, 0 ≤ s ∧ s ≤ 18446744073709551615 → Ok (J s) (fun r => 0 ≤ r.1 ∧ r.1 ≤ 18446744073709551615) := by
  intro s hs
  rw [eJ]
  exact Ok.bv fun _ _ => Ok.bv fun _ _ => Ok.bv fun _ _ => Ok.bv fun _ _ => Ok.sm hs
 exact Ok.bv fun _ _ => Ok.bv fun _ _ => Ok.it (fun _ => Ok.bv fun q eq => hJ q (wU64 eq).1) (fun _ => hJ _ hr.1)
theorem num_Mul_tot {x y : Int} (hx : -9223372036854775808 ≤ x ∧ x ≤ 9223372036854775807) (hy : -9223372036854775808 ≤ y ∧ y ≤ 9223372036854775807) : Ok (num_Mul x y) (fun r => -9223372036854775807 ≤ r.1 ∧ r.1 ≤ 9223372036854775807) := by
 unfold num_Mul
 refine Ok.ob (num_abs_tot hx) fun a ea ha => Ok.ob (num_abs_tot hy) fun b eb hb => Ok.ob (num_scaled_tot (by omega) (by omega) ⟨by decide, by decide⟩) fun r er hr => Ok.bv fun z ez => Ok.it (fun _ => Ok.sm ⟨by decide, by decide⟩) (fun _ => ?_)
 exact Ok.bv fun _ _ => Ok.bv fun _ _ => Ok.bv fun _ _ => Ok.ob (num_signed_tot hr) fun q eq hq => Ok.sm hq
theorem num_Quo_tot {x y : Int} (hx : -9223372036854775808 ≤ x ∧ x ≤ 9223372036854775807) (hy : -9223372036854775808 ≤ y ∧ y ≤ 9223372036854775807) : Ok (num_Quo x y) (fun r => -9223372036854775807 ≤ r.1 ∧ r.1 ≤ 9223372036854775807) := by
 unfold num_Quo
 refine Ok.bv fun z ez => Ok.it (fun _ => Ok.sm ⟨by decide, by decide⟩) (fun e => ?_)
 simp [ez] at e
 refine Ok.ob (num_abs_tot hx) fun a ea ha => Ok.ob (num_abs_tot hy) fun b eb hb => Ok.ob (num_scaled_tot (by omega) ⟨by decide, by decide⟩ (by omega)) fun r er hr => Ok.bv fun z ez => Ok.it (fun _ => Ok.sm ⟨by decide, by decide⟩) (fun _ => ?_)
 exact Ok.bv fun _ _ => Ok.bv fun _ _ => Ok.bv fun _ _ => Ok.ob (num_signed_tot hr) fun q eq hq => Ok.sm hq
theorem num_Parse_tot (t : List UInt8) (ht : t.length ≤ 9223372036854775807) : Ok (num_Parse t) (fun r => -9223372036854775807 ≤ r.1 ∧ r.1 ≤ 9223372036854775807) := by
 unfold num_Parse
 refine Ok.bv fun J2 eJ2 => Ok.bv fun B eB => ?_
 have hJ2 : ∀ s : Int × Int × Int, 0 ≤ s.1 ∧ s.1 ≤ 18446744073709551615 → Ok (J2 s) (fun r => -9223372036854775807 ≤ r.1 ∧ r.1 ≤ 9223372036854775807) := by
  intro s hs
  rw [eJ2]
  refine Ok.bv fun J4 eJ4 => Ok.bv fun m em => Ok.bv fun B eB => ?_
  have hJ4 : ∀ v : Int, 0 ≤ v ∧ v ≤ 18446744073709551615 → Ok (J4 v) (fun r => -9223372036854775807 ≤ r.1 ∧ r.1 ≤ 9223372036854775807) := by
   intro v hv
   rw [eJ4]
   exact Ok.bv fun _ _ => Ok.bv fun _ _ => Ok.bv fun _ _ => Ok.it (fun _ => Ok.sm ⟨by decide, by decide⟩) (fun _ => Ok.ob (num_signed_tot hv) fun q eq hq => Ok.sm hq)
  subst eB
  refine Ok.lp (fun s => (0 ≤ s.1 ∧ s.1 ≤ 18446744073709551615) ∧ 0 ≤ s.2) (fun s => (6 - s.2).toNat) ⟨hs, by simp only; omega⟩ (by simp only; omega) fun s hI next ih => ?_
  refine Ok.bv fun c ec => Ok.it (fun e => ?_) (fun _ => hJ4 _ hI.1)
  simp [ec] at e
  refine Ok.ck ⟨hI.1, by decide, by decide⟩ (Ok.bv fun q eq => Ok.bv fun _ _ => Ok.it (fun _ => Ok.sm ⟨by decide, by decide⟩) (fun _ => Ok.bv fun i ei => ?_))
  have hi := (wI64 ei).2 (by omega)
  refine ih _ ⟨by rw [eq]; simp only; omega, by simp only; omega⟩ (by simp only; omega)
 subst eB
 refine Ok.lp (fun s => 0 ≤ s.1 ∧ s.1 ≤ 18446744073709551615) (fun s => t.length - s.2.2.2) ⟨by decide, by decide⟩ (by simp only; omega) fun s hI next ih => ?_
 refine Ok.bv fun c ec => Ok.it (fun e => ?_) (fun _ => hJ2 _ hI)
 rw [ec, dT] at e
 have hn := nextP_gt e
 refine Ok.bv fun J eJ => ?_
 have hJ : ∀ s', Ok (J s') (fun r => -9223372036854775807 ≤ r.1 ∧ r.1 ≤ 9223372036854775807) := by
  intro s'
  rw [eJ]
  refine Ok.ck ⟨hI, by decide, by decide⟩ (Ok.bv fun q eq => Ok.bv fun d ed => Ok.bv fun f ef => Ok.ck ⟨?_, ?_, by decide, by decide⟩ (Ok.bv fun g eg => Ok.bv fun _ _ => Ok.bv fun _ _ => Ok.it (fun _ => Ok.sm ⟨by decide, by decide⟩) (fun _ => Ok.bv fun i ei => ?_)))
  · rw [eq]; simp only; omega
  · exact (wU64 ef).1.1
  refine ih _ ?_ (by simp only; omega)
  rw [eg]; simp only; omega
 refine Ok.bv fun _ _ => Ok.bv fun _ _ => Ok.bv fun _ _ => Ok.it (fun _ => ih _ hI (by simp only; omega)) (fun _ => ?_)
 exact Ok.bv fun _ _ => Ok.bv fun _ _ => Ok.bv fun _ _ => Ok.bv fun _ _ => Ok.bv fun _ _ => Ok.it (fun _ => Ok.sm ⟨by decide, by decide⟩) (fun _ => Ok.bv fun _ _ => Ok.it (fun _ => Ok.bv fun _ _ => hJ _) (fun _ => hJ _))
theorem bOk_app {l m : List Int} (h : bytesOk l = true) (k : bytesOk m = true) : bytesOk (l ++ m) = true := by
 unfold bytesOk at *
 rw [List.all_append, h, k]; rfl
theorem bOk_one {z : Int} (h : 0 ≤ z ∧ z ≤ 255) : bytesOk [z] = true := by
 simp [bytesOk]; exact h
theorem bOk_gel {l : List Int} (h : bytesOk l = true) (i : Int) : 0 ≤ gel l i ∧ gel l i ≤ 255 := by
 unfold bytesOk at h
 rw [List.all_eq_true] at h
 unfold gel
 by_cases hi : i.toNat < l.length
 · rw [List.getD_eq_getElem?_getD, List.getElem?_eq_getElem hi]
   have := h _ (List.getElem_mem hi)
   simpa using this
 · rw [List.getD_eq_getElem?_getD, List.getElem?_eq_none (by omega)]
   exact ⟨by decide, by decide⟩
theorem bOk_set {l : List Int} (h : bytesOk l = true) (i : Nat) {z : Int} (hz : 0 ≤ z ∧ z ≤ 255) : bytesOk (l.set i z) = true := by
 unfold bytesOk at *
 rw [List.all_eq_true] at *
 intro x hx
 rcases List.mem_or_eq_of_mem_set hx with h' | h'
 · exact h x h'
 · rw [h']; simpa using hz
theorem num_Print_tot {x : Int} (hx : -9223372036854775808 ≤ x ∧ x ≤ 9223372036854775807) : Ok (num_Print x) (fun r => r.length ≤ 41) := by
 unfold num_Print
 refine Ok.ob (num_abs_tot hx) fun y ey hy => Ok.bv fun J4 eJ4 => Ok.bv fun B eB => ?_
 have hJ4 : ∀ s : List Int, bytesOk s = true ∧ s.length ≤ 40 → Ok (J4 s) (fun r => r.length ≤ 41) := by
  intro s hs
  rw [eJ4]
  refine Ok.bv fun J7 eJ7 => ?_
  have hJ7 : ∀ s : List Int, bytesOk s = true ∧ s.length ≤ 41 → Ok (J7 s) (fun r => r.length ≤ 41) := by
   intro s hs
   rw [eJ7]
   refine Ok.bv fun J10 eJ10 => Ok.bv fun n en => Ok.bv fun B eB => ?_
   have hJ10 : ∀ s : List Int, bytesOk s = true ∧ s.length ≤ 41 → Ok (J10 s) (fun r => r.length ≤ 41) := by
    intro s hs
    rw [eJ10]
    exact Ok.ck hs.1 (Ok.bv fun v ev => Ok.sm (by rw [ev]; simpa [toB] using hs.2))
   have hn := (wI64 en).2 (by omega)
   subst eB
   refine Ok.lp (fun s => (0 ≤ s.1 ∧ s.2.1 < (s.2.2.length : Int) ∧ s.1 ≤ 41) ∧ bytesOk s.2.2 = true ∧ s.2.2.length ≤ 41) (fun s => (s.2.1 - s.1).toNat) ⟨by simp only; omega, hs⟩ (by simp only; omega) fun s hI next ih => ?_
   refine Ok.bv fun c ec => Ok.it (fun e => ?_) (fun _ => hJ10 _ hI.2)
   rw [ec, dT] at e
   refine Ok.ck (by omega) (Ok.ck (by omega) (Ok.bv fun r er => Ok.bv fun i ei => Ok.bv fun j ej => ?_))
   have hi := (wI64 ei).2 (by omega)
   have hj := (wI64 ej).2 (by omega)
   have hl : r.length = s.2.2.length := by rw [er, List.length_set, List.length_set]
   refine ih _ ⟨by simp only; omega, ?_, by simp only; omega⟩ (by simp only; omega)
   simp only
   rw [er]
   exact bOk_set (bOk_set hI.2.1 _ (bOk_gel hI.2.1 _)) _ (bOk_gel hI.2.1 _)
  refine Ok.bv fun c ec => Ok.it (fun e => Ok.ck (by simp; omega) (Ok.bv fun r er => hJ7 _ ?_)) (fun _ => hJ7 _ ⟨hs.1, by omega⟩)
  rw [er]
  exact ⟨bOk_app hs.1 (by decide), by simp; omega⟩
 subst eB
 refine Ok.lp (fun s => ∃ k : Nat, s.2.2.1 = (k : Int) ∧ k ≤ 20 ∧ (0 ≤ s.1 ∧ s.1 < ((10 ^ (20 - k) : Nat) : Int)) ∧ bytesOk s.2.2.2 = true ∧ s.2.2.2.length ≤ 2 * k) (fun s => (21 - s.2.2.1).toNat) ⟨0, rfl, by decide, ⟨by simp only; omega, ?_⟩, rfl, by simp⟩ (by simp) fun s hI next ih => ?_
 · show y < ((10 ^ 20 : Nat) : Int)
   rw [show (10 ^ 20 : Nat) = 100000000000000000000 from rfl]
   omega
 obtain ⟨k, hk, hk20, hu, hb, hl⟩ := hI
 refine Ok.bv fun c1 ec1 => Ok.bv fun c2 ec2 => Ok.bv fun c ec => Ok.it (fun e => ?_) (fun _ => hJ4 _ ⟨hb, by omega⟩)
 simp [ec, ec1, ec2] at e
 have hk' : k < 20 := by
  rcases Nat.lt_or_ge k 20 with h | h
  · exact h
  · have : k = 20 := by omega
    subst this
    have h1 : (10 ^ (20 - 20) : Nat) = 1 := rfl
    rw [h1] at hu
    omega
 have hp : (10 ^ (20 - k) : Nat) = 10 * 10 ^ (20 - (k + 1)) := by
  rw [show 20 - k = (20 - (k + 1)) + 1 by omega, Nat.pow_succ, Nat.mul_comm]
 have hu2 : (10 ^ (20 - k) : Nat) ≤ 100000000000000000000 := Nat.pow_le_pow_right (n := 10) (by decide) (show 20 - k ≤ 20 by omega)
 refine Ok.bv fun J46 eJ46 => Ok.bv fun J50 eJ50 => ?_
 have hJ46 : ∀ s' : Int × Bool × List Int, s'.1 = s.1 / 10 ∧ bytesOk s'.2.2 = true ∧ s'.2.2.length ≤ 2 * (k + 1) → Ok (J46 s') (fun r => r.length ≤ 41) := by
  intro s' h'
  rw [eJ46]
  refine Ok.bv fun i ei => ih _ ?_ ?_
  · have hi := (wI64 ei).2 (by omega)
    refine ⟨k + 1, by simp only; omega, by omega, ?_, h'.2⟩
    simp only
    rw [h'.1]
    omega
  · have hi := (wI64 ei).2 (by omega)
    simp only
    omega
 have hJ50 : ∀ s' : Bool × List Int, bytesOk s'.2 = true ∧ s'.2.length ≤ 2 * k + 1 → Ok (J50 s') (fun r => r.length ≤ 41) := by
  intro s' h'
  rw [eJ50]
  refine Ok.bv fun d ed => Ok.bv fun d' ed' => Ok.bv fun q eq => Ok.bv fun _ _ => Ok.bv fun _ _ => ?_
  have hd : s.1.tdiv 10 = s.1 / 10 := Int.tdiv_eq_ediv_of_nonneg hu.1
  have hq := (wU64 eq).2 (by omega)
  refine Ok.it (fun _ => hJ46 _ ⟨by simp only; omega, h'.1, by simp only; omega⟩) (fun _ => Ok.bv fun b eb => Ok.ck (by simp; omega) (Ok.bv fun l el => hJ46 _ ⟨by simp only; omega, ?_, ?_⟩))
  · simp only; rw [el]; exact bOk_app h'.1 (bOk_one (wU8 eb).1)
  · simp only; rw [el]; simp; omega
 refine Ok.bv fun _ _ => Ok.it (fun _ => Ok.bv fun _ _ => Ok.it (fun _ => Ok.ck (by simp; omega) (Ok.bv fun l el => hJ50 _ ⟨?_, ?_⟩)) (fun _ => hJ50 _ ⟨hb, by simp only; omega⟩)) (fun _ => hJ50 _ ⟨hb, by simp only; omega⟩)
 · simp only; rw [el]; exact bOk_app hb (by decide)
 · simp only; rw [el]; simp; omega
end Go.Sp
end
section
namespace Go.Sp
open Go.Stp Go.ValP
theorem value_Text_eq (t : List UInt8) : value_Text t = some (if 64 < (t.length : Int) then ⟨4, 2, []⟩ else ⟨2, 0, t⟩) := by
 unfold value_Text bindv
 by_cases h : 64 < (t.length : Int) <;> simp [h, obind, value_Fail]
theorem value_Bool_eq (b : Bool) : value_Bool b = some ⟨3, if b = true then 1 else 0, []⟩ := by
 cases b <;> rfl
theorem value_Made_eq (n : Int) (b : Bool) : value_Made n b = some (if b = true then ⟨1, n, []⟩ else ⟨4, 5, []⟩) := by
 cases b <;> rfl
theorem value_like_eq (x y : V) : value_like x y = some (if x.k ≠ 0 then x else if y.k = 2 then ⟨2, 0, []⟩ else if y.k = 3 then ⟨3, 0, []⟩ else ⟨1, 0, []⟩) := by
 unfold value_like bindv
 by_cases h0 : x.k = 0
 · by_cases h2 : y.k = 2
   · simp [h0, h2, obind, value_Text_eq]
   · by_cases h3 : y.k = 3
     · simp [h0, h2, h3, obind, value_Bool_eq]
     · simp [h0, h2, h3, obind, value_Num]
 · simp [h0]
theorem value_Compare_tot (x y : V) : Ok (value_Compare x y) (fun _ => True) := by
 unfold value_Compare
 rw [value_like_eq, value_like_eq]
 refine Ok.os fun a ea => Ok.os fun b eb => Ok.bv fun _ _ => Ok.it (fun _ => ?_) (fun _ => ?_)
 · exact Ok.os fun _ _ => Ok.os fun _ _ => Ok.bv fun _ _ => Ok.sm trivial
 · exact Ok.bv fun _ _ => Ok.it (fun _ => Ok.bv fun _ _ => Ok.sm trivial) (fun _ => Ok.bv fun _ _ => Ok.it (fun _ => Ok.sm trivial) (fun _ => Ok.bv fun _ _ => Ok.it (fun _ => Ok.sm trivial) (fun _ => Ok.sm trivial)))
structure Gd (x : V) : Prop where
 k0 : 0 ≤ x.k
 k3 : x.k ≤ 3
 s : x.s.length ≤ 64
 n1 : x.k = 1 → -9223372036854775807 ≤ x.n ∧ x.n ≤ 9223372036854775807
 n3 : x.k = 3 → 0 ≤ x.n ∧ x.n ≤ 1
theorem and1 (n : Int) : 0 ≤ bits .and .i64 n 1 ∧ bits .and .i64 n 1 ≤ 1 := by
 have h : (BitVec.ofInt 64 n &&& BitVec.ofInt 64 1).toNat ≤ 1 := by
  rw [BitVec.toNat_and]
  exact Nat.and_le_right
 show 0 ≤ IntKind.i64.wrap ((BitVec.ofInt 64 n &&& BitVec.ofInt 64 1).toNat : Int) ∧ IntKind.i64.wrap ((BitVec.ofInt 64 n &&& BitVec.ofInt 64 1).toNat : Int) ≤ 1
 generalize (BitVec.ofInt 64 n &&& BitVec.ofInt 64 1).toNat = v at h
 have := (wI64 (z := IntKind.i64.wrap (v : Int)) rfl).2 (by omega)
 omega
theorem value_Show_tot {x : V} (h : Gd x) (hn : -9223372036854775808 ≤ x.n ∧ x.n ≤ 9223372036854775807) : Ok (value_Show x) (fun r => r.length ≤ 64) := by
 unfold value_Show
 refine Ok.bv fun _ _ => Ok.it (fun _ => Ok.ob (num_Print_tot hn) fun y ey hy => Ok.sm (by omega)) (fun _ => Ok.bv fun _ _ => Ok.it (fun _ => Ok.sm h.s) (fun _ => Ok.bv fun _ _ => Ok.it (fun _ => Ok.bv fun _ _ => Ok.it (fun _ => Ok.sm (by decide)) (fun _ => Ok.sm (by decide))) (fun _ => Ok.bv fun _ e => Ok.it (fun g => ?_) (fun _ => Ok.sm (by decide)))))
 simp [e] at g
 have := h.k3
 omega
theorem trim_len (s p : List UInt8) : (Lib.trimPrefix s p).length ≤ s.length := by
 unfold Lib.trimPrefix
 split <;> simp
end Go.Sp
end
section
namespace Go.Sp
open Go.Stp Go.ValP
def Rt (v : V) : Prop :=
 (v.k = 0 ∧ v.n = 0 ∧ v.s = []) ∨ (v.k = 1 ∧ (-9223372036854775807 ≤ v.n ∧ v.n ≤ 9223372036854775807) ∧ v.s = []) ∨ (v.k = 2 ∧ v.n = 0 ∧ v.s.length ≤ 64) ∨
  (v.k = 3 ∧ (v.n = 0 ∨ v.n = 1) ∧ v.s = []) ∨ (v.k = 4 ∧ (1 ≤ v.n ∧ v.n ≤ 7) ∧ v.s = [])
theorem Rt.n {v : V} (h : Rt v) : -9223372036854775807 ≤ v.n ∧ v.n ≤ 9223372036854775807 := by unfold Rt at h; omega
theorem Rt.len {v : V} (h : Rt v) : v.s.length ≤ 64 := by
 rcases h with h | h | h | h | h
 · simp [h.2.2]
 · simp [h.2.2]
 · exact h.2.2
 · simp [h.2.2]
 · simp [h.2.2]
theorem Rt.gd {v : V} (h : Rt v) (h4 : v.k ≠ 4) : Gd v := by
 have hl := h.len
 unfold Rt at h
 exact ⟨by omega, by omega, hl, by omega, by omega⟩
theorem value_Right_inv {x : V} (hn : -9223372036854775808 ≤ x.n ∧ x.n ≤ 9223372036854775807) : Ok (value_Right x) (fun b => b = true → Rt x) := by
 unfold value_Right
 refine Ok.bv fun _ e0 => Ok.it (fun h => Ok.bv fun _ a => Ok.bv fun _ b => Ok.bv fun _ c => Ok.sm fun g => ?_) (fun h => ?_)
 · simp [e0] at h
   simp [c, a, b] at g
   exact .inl ⟨h, g.1, g.2⟩
 refine Ok.bv fun _ e1 => Ok.it (fun h => Ok.bv fun _ a => Ok.bv fun _ b => Ok.bv fun _ c => Ok.sm fun g => ?_) (fun h => ?_)
 · simp [e1] at h
   simp [c, a, b] at g
   exact .inr (.inl ⟨h, by omega, g.2⟩)
 refine Ok.bv fun _ e2 => Ok.it (fun h => Ok.bv fun _ a => Ok.bv fun _ b => Ok.bv fun _ c => Ok.sm fun g => ?_) (fun h => ?_)
 · simp [e2] at h
   simp [c, a, b] at g
   exact .inr (.inr (.inl ⟨h, g.1, by omega⟩))
 refine Ok.bv fun _ e3 => Ok.it (fun h => Ok.bv fun _ a => Ok.bv fun _ b => Ok.bv fun _ c => Ok.bv fun _ d => Ok.sm fun g => ?_) (fun h => ?_)
 · simp [e3] at h
   simp [d, b, a, c] at g
   have := and1 x.n
   exact .inr (.inr (.inr (.inl ⟨h, by omega, g.2⟩)))
 refine Ok.bv fun _ e4 => Ok.it (fun h => Ok.bv fun _ a => Ok.bv fun _ b => Ok.bv fun _ c => Ok.bv fun _ d => Ok.bv fun _ f => Ok.sm fun g => ?_) (fun h => Ok.sm fun h => absurd h Bool.false_ne_true)
 simp [e4] at h
 simp [f, c, a, b, d] at g
 exact .inr (.inr (.inr (.inr ⟨h, by omega, g.2⟩)))
theorem rtNum {n : Int} (h : -9223372036854775807 ≤ n ∧ n ≤ 9223372036854775807) : Rt ⟨1, n, []⟩ := .inr (.inl ⟨rfl, h, rfl⟩)
theorem rtFail {n : Int} (h : 1 ≤ n ∧ n ≤ 7) : Rt ⟨4, n, []⟩ := .inr (.inr (.inr (.inr ⟨rfl, h, rfl⟩)))
theorem value_Num_tot {x0 : Int} (h : -9223372036854775807 ≤ x0 ∧ x0 ≤ 9223372036854775807) : Ok (value_Num x0) (fun r => Rt r ∧ (r.k = 4 ∨ r.k = 1)) := Ok.sm ⟨rtNum h, .inr rfl⟩
theorem value_Fail_tot {x0 : Int} (h : 1 ≤ x0 ∧ x0 ≤ 7) : Ok (value_Fail x0) (fun r => Rt r ∧ (r.k = 4 ∨ r.k = 1)) := Ok.sm ⟨rtFail h, .inl rfl⟩
theorem value_Bool_tot {x0 : Bool} : Ok (value_Bool x0) Rt := by
 rw [value_Bool_eq]
 cases x0
 · exact Ok.sm (.inr (.inr (.inr (.inl ⟨rfl, .inl rfl, rfl⟩))))
 · exact Ok.sm (.inr (.inr (.inr (.inl ⟨rfl, .inr rfl, rfl⟩))))
theorem value_Text_tot {x0 : List UInt8} : Ok (value_Text x0) (fun r => Rt r ∧ r.s.length ≤ 64) := by
 rw [value_Text_eq]
 by_cases h : 64 < (x0.length : Int)
 · rw [if_pos h]; exact Ok.sm ⟨rtFail (by decide), by decide⟩
 · rw [if_neg h]; exact Ok.sm ⟨.inr (.inr (.inl ⟨rfl, rfl, by simp only; omega⟩)), by simp only; omega⟩
theorem value_Made_tot {x0 : Int} {x1 : Bool} (h : x1 = true → -9223372036854775807 ≤ x0 ∧ x0 ≤ 9223372036854775807) : Ok (value_Made x0 x1) (fun r => Rt r ∧ (r.k = 4 ∨ r.k = 1)) := by
 rw [value_Made_eq]
 cases x1
 · exact Ok.sm ⟨rtFail (by decide), .inl rfl⟩
 · exact Ok.sm ⟨rtNum (h rfl), .inr rfl⟩
theorem tmod_nat (a : Int) {c : Int} (hc : c ≠ 0) : (a.tmod c).natAbs < c.natAbs := by
 rcases Int.lt_or_gt_of_ne hc with h | h
 · have := tmod_bd a (c := -c) (by omega)
   rw [Int.tmod_neg] at this
   omega
 · have := tmod_bd a (c := c) h
   omega
theorem tdiv_nat (a c : Int) : (a.tdiv c).natAbs ≤ a.natAbs := by
 rw [Int.natAbs_tdiv]
 exact Nat.div_le_self _ _
theorem mul_guard {a s : Int} (hs : 1 ≤ s) (h1 : a ≤ Int.tdiv 9223372036854775807 s) (h2 : Int.tdiv (-9223372036854775807) s ≤ a) : -9223372036854775807 ≤ a * s ∧ a * s ≤ 9223372036854775807 := by
 have e : Int.tdiv 9223372036854775807 s = 9223372036854775807 / s := Int.tdiv_eq_ediv_of_nonneg (by decide)
 rw [Int.neg_tdiv] at h2
 rw [e] at h1 h2
 have hd : 9223372036854775807 / s * s ≤ 9223372036854775807 := Int.ediv_mul_le _ (by omega)
 have u1 : a * s ≤ 9223372036854775807 / s * s := Int.mul_le_mul_of_nonneg_right h1 (by omega)
 have u2 : -(9223372036854775807 / s) * s ≤ a * s := Int.mul_le_mul_of_nonneg_right h2 (by omega)
 rw [Int.neg_mul] at u2
 omega
theorem all_snoc {α : Type} {l : List α} {z : α} {P : α → Prop} (h : ∀ x ∈ l, P x) (hz : P z) : ∀ x ∈ l ++ [z], P x := by
 intro x hx
 rcases List.mem_append.1 hx with h' | h'
 · exact h x h'
 · rw [List.mem_singleton.1 h']; exact hz
theorem all2 {α : Type} {a b : α} {P : α → Prop} (h : P a) (k : P b) : ∀ x ∈ [a, b], P x := by
 intro x hx
 simp at hx
 rcases hx with rfl | rfl
 · exact h
 · exact k
theorem all_app {α : Type} {l m : List α} {P : α → Prop} (h : ∀ x ∈ l, P x) (k : ∀ x ∈ m, P x) : ∀ x ∈ l ++ m, P x := by
 intro x hx
 rcases List.mem_append.1 hx with h' | h'
 · exact h x h'
 · exact k x h'
theorem all_cut {α : Type} {l : List α} {P : α → Prop} (h : ∀ x ∈ l, P x) (a b : Int) : ∀ x ∈ cutL l a b, P x := fun x hx => h x (List.mem_of_mem_take (List.mem_of_mem_drop hx))
theorem cutL_len {α : Type} (l : List α) (a b : Int) (h : 0 ≤ a ∧ a ≤ b ∧ b ≤ (l.length : Int)) : ((cutL l a b).length : Int) = b - a := by
 unfold cutL
 rw [List.length_drop, List.length_take]
 omega
theorem value_Show_rt {x0 : V} (h : Rt x0) (h4 : x0.k ≠ 4) : Ok (value_Show x0) (fun r => r.length ≤ 64) := value_Show_tot (h.gd h4) (by have := h.n; omega)
end Go.Sp
end
section
set_option maxRecDepth 100000
namespace Go.Sp
open Go.Stp Go.ValP
theorem num_Of_tot {x0 : Int}  : Ok (num_Of x0) (fun r => -9223372036854775807 ≤ r.1 ∧ r.1 ≤ 9223372036854775807) := by
 unfold num_Of
 refine Ok.bv fun z5_2 ez5_2 => ?_
 refine Ok.bv fun z8_3 ez8_3 => ?_
 refine Ok.bv fun z9_4 ez9_4 => ?_
 refine Ok.it (fun c => ?_) (fun c => ?_)
 · try simp only [ez9_4, ez8_3, ez5_2, BL] at c
   exact Ok.sm (by first | trivial | assumption | omega | (simp only; omega))
 · try simp only [ez9_4, ez8_3, ez5_2, BL] at c
   refine Ok.bv fun z11_6 ez11_6 => ?_
   have rz11_6 := (wI64 ez11_6).1
   try replace ez11_6 := (wI64 ez11_6).2 (by omega)
   exact Ok.sm (by first | trivial | assumption | omega | (simp only; omega))
theorem num_Floor_tot {x0 : Int}  : Ok (num_Floor x0) (fun r => r.2 = true → -9223372036854775807 ≤ r.1 ∧ r.1 ≤ 9223372036854775807) := by
 unfold num_Floor
 refine Ok.bv fun z6_1 ez6_1 => ?_
 refine Ok.bv fun J3 eJ3 => ?_
 have hJ3 : ∀ s3 : Int, (True) → Ok (J3 s3) (fun r => r.2 = true → -9223372036854775807 ≤ r.1 ∧ r.1 ≤ 9223372036854775807) := by
  intro s3 hs3
  rw [eJ3]
  refine Ok.ob (num_Sub_tot _ _) fun y13_4 ey13_4 hy13_4 => ?_
  exact Ok.sm (by exact hy13_4)
 clear eJ3
 refine Ok.bv fun z8_5 ez8_5 => ?_
 refine Ok.it (fun c => ?_) (fun c => ?_)
 · try simp only [ez8_5, dT] at c
   refine Ok.bv fun z10_7 ez10_7 => ?_
   have rz10_7 := (wI64 ez10_7).1
   try replace ez10_7 := (wI64 ez10_7).2 (by omega)
   exact hJ3 _ (by first | trivial | assumption | omega | (simp only; omega) | (simp only; assumption) | (simp; omega) | (simp; done))
 · try simp only [ez8_5, dF] at c
   exact hJ3 _ (by first | trivial | assumption | omega | (simp only; omega) | (simp only; assumption) | (simp; omega) | (simp; done))
theorem maths_gcd_tot {x0 : Int} {x1 : Int} (h1 : -9223372036854775808 ≤ x1 ∧ x1 ≤ 9223372036854775807) : Ok (maths_gcd x0 x1) (fun _ => True) := by
 unfold maths_gcd
 refine Ok.bv fun J2 eJ2 => ?_
 have hJ2 : ∀ s2 : Int, (True) → Ok (J2 s2) (fun _ => True) := by
  intro s2 hs2
  rw [eJ2]
  exact Ok.sm (by first | trivial | assumption | omega | (simp only; omega))
 clear eJ2
 refine Ok.bv fun B3 eB3 => ?_
 subst eB3
 refine Ok.lp (fun s3 : Int × Int => True) (fun s3 => s3.2.natAbs) (by first | trivial | omega | (simp only; omega) | (simp only; refine ⟨by omega, ?_⟩; first | assumption | omega) | (simp; omega) | (simp; done)) (by first | (simp only; omega) | (simp; omega) | (simp; done)) fun s3 hs3 nextn3 ihn3 => ?_
 refine Ok.bv fun z6_6 ez6_6 => ?_
 refine Ok.it (fun c => ?_) (fun c => ?_)
 · try simp only [ez6_6, BL] at c
   refine Ok.ckf (by first | omega | decide | (simp; omega) | (simp; done)) fun k1 => ?_
   refine Ok.bv fun z10_10 ez10_10 => ?_
   have ht := tmod_nat s3.1 k1
   rw [← ez10_10] at ht
   exact ihn3 _ (by first | trivial | omega | (simp only; omega) | (simp only; refine ⟨by omega, ?_⟩; first | assumption | omega) | (simp; omega) | (simp; done)) (by first | (simp only; omega) | (simp; omega) | (simp; done))
 · try simp only [ez6_6, BL] at c
   exact hJ2 _ (by first | trivial | assumption | omega | (simp only; omega) | (simp only; assumption) | (simp; omega) | (simp; done))
theorem maths_whole_tot {x0 : List (Int)} (hl : x0.length ≤ 1000) : Ok (maths_whole x0) (fun r => r.length = x0.length ∧ ∀ x ∈ r, -9223372036854775808 ≤ x ∧ x ≤ 9223372036854775807) := by
 unfold maths_whole
 refine Ok.bv fun J2 eJ2 => ?_
 have hJ2 : ∀ s2 : (List (Int)), (s2.length = x0.length ∧ ∀ x ∈ s2, -9223372036854775808 ≤ x ∧ x ≤ 9223372036854775807) → Ok (J2 s2) (fun r => r.length = x0.length ∧ ∀ x ∈ r, -9223372036854775808 ≤ x ∧ x ≤ 9223372036854775807) := by
  intro s2 hs2
  rw [eJ2]
  exact Ok.sm (by first | trivial | assumption | omega | (simp only; omega))
 clear eJ2
 refine Ok.bv fun B5 eB5 => ?_
 subst eB5
 refine Ok.lp (fun s5 : Int × (List (Int)) => (0 ≤ s5.1 ∧ s5.1 ≤ (x0.length : Int)) ∧ (s5.2.length : Int) = s5.1 ∧ ∀ x ∈ s5.2, -9223372036854775808 ≤ x ∧ x ≤ 9223372036854775807) (fun s5 => ((x0.length : Int) - s5.1).toNat) (by refine ⟨by simp only; omega, rfl, fun x hx => ?_⟩; cases hx) (by first | (simp only; omega) | (simp; omega) | (simp; done)) fun s5 hs5 nextn5 ihn5 => ?_
 refine Ok.bv fun z9_8 ez9_8 => ?_
 refine Ok.it (fun c => ?_) (fun c => ?_)
 · try simp only [ez9_8, dT] at c
   refine Ok.ckf (by first | omega | decide | (simp; omega) | (simp; done)) fun k1 => ?_
   refine Ok.bv fun z10_13 ez10_13 => ?_
   refine Ok.bv fun z14_14 ez14_14 => ?_
   try have qz14_14 := tdiv_nat z10_13 1000000
   have rz14_14 := (wI64 ez14_14).1
   try replace ez14_14 := (wI64 ez14_14).2 (by omega)
   refine Ok.ckf (by first | omega | decide | (simp; omega) | (simp; done)) fun k2 => ?_
   refine Ok.bv fun z16_18 ez16_18 => ?_
   refine Ok.bv fun z17_19 ez17_19 => ?_
   have rz17_19 := (wI64 ez17_19).1
   try replace ez17_19 := (wI64 ez17_19).2 (by omega)
   exact ihn5 _ (by refine ⟨by simp only; omega, by simp only [ez16_18, List.length_append, List.length_singleton]; omega, ?_⟩; simp only [ez16_18]; exact all_snoc hs5.2.2 rz14_14) (by first | (simp only; omega) | (simp; omega) | (simp; done))
 · try simp only [ez9_8, dF] at c
   exact hJ2 _ (by exact ⟨by omega, hs5.2.2⟩)
theorem maths_back_tot {x0 : Int}  : Ok (maths_back x0) (fun r => Rt r ∧ (r.k = 4 ∨ r.k = 1)) := by
 unfold maths_back
 refine Ok.ob (num_Of_tot) fun y4_2 ey4_2 hy4_2 => ?_
 refine Ok.ob (value_Made_tot (fun _ => hy4_2)) fun y7_3 ey7_3 hy7_3 => ?_
 exact Ok.sm (by first | exact hy7_3 | exact hy7_3.1 | first | trivial | assumption | omega | (simp only; omega))
theorem maths_away_tot {x0 : Int} {x1 : Bool}  : Ok (maths_away x0 x1) (fun r => Rt r ∧ (r.k = 4 ∨ r.k = 1)) := by
 unfold maths_away
 refine Ok.bv fun z8_2 ez8_2 => ?_
 try have qz8_2 := tdiv_nat x0 1000000
 have rz8_2 := (wI64 ez8_2).1
 try replace ez8_2 := (wI64 ez8_2).2 (by omega)
 refine Ok.bv fun J4 eJ4 => ?_
 have hJ4 : ∀ s4 : Int × Int, (True) → Ok (J4 s4) (fun r => Rt r ∧ (r.k = 4 ∨ r.k = 1)) := by
  intro s4 hs4
  rw [eJ4]
  refine Ok.bv fun J6 eJ6 => ?_
  have hJ6 : ∀ s6 : Int, (True) → Ok (J6 s6) (fun r => Rt r ∧ (r.k = 4 ∨ r.k = 1)) := by
   intro s6 hs6
   rw [eJ6]
   refine Ok.bv fun J8 eJ8 => ?_
   have hJ8 : ∀ s8 : Int, (True) → Ok (J8 s8) (fun r => Rt r ∧ (r.k = 4 ∨ r.k = 1)) := by
    intro s8 hs8
    rw [eJ8]
    refine Ok.bv fun z27_9 ez27_9 => ?_
    have rz27_9 := (wI64 ez27_9).1
    try replace ez27_9 := (wI64 ez27_9).2 (by omega)
    refine Ok.ob (maths_back_tot) fun y28_10 ey28_10 hy28_10 => ?_
    exact Ok.sm (by first | exact hy28_10 | exact hy28_10.1 | first | trivial | assumption | omega | (simp only; omega))
   clear eJ8
   refine Ok.bv fun z19_11 ez19_11 => ?_
   refine Ok.bv fun z20_12 ez20_12 => ?_
   refine Ok.bv fun z22_13 ez22_13 => ?_
   refine Ok.it (fun c => ?_) (fun c => ?_)
   · try simp only [ez22_13, ez20_12, BL] at c
     refine Ok.bv fun z24_15 ez24_15 => ?_
     have rz24_15 := (wI64 ez24_15).1
     try replace ez24_15 := (wI64 ez24_15).2 (by omega)
     exact hJ8 _ (by first | trivial | assumption | omega | (simp only; omega) | (simp only; assumption) | (simp; omega) | (simp; done))
   · try simp only [ez22_13, ez20_12, BL] at c
     exact hJ8 _ (by first | trivial | assumption | omega | (simp only; omega) | (simp only; assumption) | (simp; omega) | (simp; done))
  clear eJ6
  refine Ok.bv fun z14_16 ez14_16 => ?_
  refine Ok.bv fun z15_17 ez15_17 => ?_
  refine Ok.it (fun c => ?_) (fun c => ?_)
  · try simp only [ez15_17, BL] at c
    refine Ok.bv fun z17_19 ez17_19 => ?_
    have rz17_19 := (wI64 ez17_19).1
    try replace ez17_19 := (wI64 ez17_19).2 (by omega)
    exact hJ6 _ (by first | trivial | assumption | omega | (simp only; omega) | (simp only; assumption) | (simp; omega) | (simp; done))
  · try simp only [ez15_17, BL] at c
    exact hJ6 _ (by first | trivial | assumption | omega | (simp only; omega) | (simp only; assumption) | (simp; omega) | (simp; done))
 clear eJ4
 refine Ok.bv fun z10_20 ez10_20 => ?_
 refine Ok.it (fun c => ?_) (fun c => ?_)
 · try simp only [ez10_20, dT] at c
   refine Ok.bv fun z12_22 ez12_22 => ?_
   have rz12_22 := (wI64 ez12_22).1
   try replace ez12_22 := (wI64 ez12_22).2 (by omega)
   exact hJ4 _ (by first | trivial | assumption | omega | (simp only; omega) | (simp only; assumption) | (simp; omega) | (simp; done))
 · try simp only [ez10_20, dF] at c
   exact hJ4 _ (by first | trivial | assumption | omega | (simp only; omega) | (simp only; assumption) | (simp; omega) | (simp; done))
theorem maths_round_tot {x0 : Int} {x1 : Int} (h0 : -9223372036854775807 ≤ x0 ∧ x0 ≤ 9223372036854775807) (h1 : -6 ≤ x1 ∧ x1 ≤ 6) : Ok (maths_round x0 x1) (fun r => Rt r ∧ (r.k = 4 ∨ r.k = 1)) := by
 unfold maths_round
 refine Ok.bv fun J3 eJ3 => ?_
 have hJ3 : ∀ s3 : Int, (1 ≤ s3 ∧ s3 ≤ 1000000000000) → Ok (J3 s3) (fun r => Rt r ∧ (r.k = 4 ∨ r.k = 1)) := by
  intro s3 hs3
  rw [eJ3]
  refine Ok.ckf (by first | omega | decide | (simp; omega) | (simp; done)) fun k1 => ?_
  refine Ok.bv fun z17_5 ez17_5 => ?_
  try have qz17_5 := tdiv_nat x0 s3
  have rz17_5 := (wI64 ez17_5).1
  try replace ez17_5 := (wI64 ez17_5).2 (by omega)
  refine Ok.ckf (by first | omega | decide | (simp; omega) | (simp; done)) fun k2 => ?_
  refine Ok.bv fun z20_7 ez20_7 => ?_
  refine Ok.bv fun J9 eJ9 => ?_
  have hJ9 : ∀ s9 : Int, (True) → Ok (J9 s9) (fun r => Rt r ∧ (r.k = 4 ∨ r.k = 1)) := by
   intro s9 hs9
   rw [eJ9]
   refine Ok.bv fun J11 eJ11 => ?_
   have hJ11 : ∀ s11 : Int, (True) → Ok (J11 s11) (fun r => Rt r ∧ (r.k = 4 ∨ r.k = 1)) := by
    intro s11 hs11
    rw [eJ11]
    refine Ok.ckf (by first | omega | decide | (simp; omega) | (simp; done)) fun k3 => ?_
    refine Ok.bv fun z38_14 ez38_14 => ?_
    try have qz38_14 := tdiv_nat 9223372036854775807 s3
    have rz38_14 := (wI64 ez38_14).1
    try replace ez38_14 := (wI64 ez38_14).2 (by omega)
    refine Ok.bv fun z39_15 ez39_15 => ?_
    refine Ok.ckf (by first | (simp only [ez39_15, BL]; omega) | (simp [ez39_15]; omega) | (simp [ez39_15]; done) | first | omega | decide | (simp; omega) | (simp; done)) fun k4 => ?_
    refine Ok.bv fun z43_17 ez43_17 => ?_
    try have qz43_17 := tdiv_nat (-9223372036854775807) s3
    have rz43_17 := (wI64 ez43_17).1
    try replace ez43_17 := (wI64 ez43_17).2 (by omega)
    refine Ok.bv fun z44_18 ez44_18 => ?_
    refine Ok.bv fun z45_19 ez45_19 => ?_
    refine Ok.it (fun c => ?_) (fun c => ?_)
    · try simp only [ez45_19, ez44_18, ez39_15, BL] at c
      refine Ok.ob (value_Fail_tot (by first | trivial | assumption | omega | (simp only; omega) | (simp only; assumption) | (simp; omega) | (simp; done))) fun y46_21 ey46_21 hy46_21 => ?_
      exact Ok.sm (by first | exact hy46_21 | exact hy46_21.1 | first | trivial | assumption | omega | (simp only; omega))
    · try simp only [ez45_19, ez44_18, ez39_15, BL] at c
      have hg := mul_guard (a := s11) hs3.1 (by rw [← ez38_14]; omega) (by rw [← ez43_17]; omega)
      refine Ok.bv fun z49_22 ez49_22 => ?_
      have rz49_22 := (wI64 ez49_22).1
      try replace ez49_22 := (wI64 ez49_22).2 (by omega)
      refine Ok.ob (value_Num_tot (by omega)) fun y50_23 ey50_23 hy50_23 => ?_
      exact Ok.sm (by first | exact hy50_23 | exact hy50_23.1 | first | trivial | assumption | omega | (simp only; omega))
   clear eJ11
   refine Ok.bv fun z28_24 ez28_24 => ?_
   have rz28_24 := (wI64 ez28_24).1
   try replace ez28_24 := (wI64 ez28_24).2 (by omega)
   refine Ok.bv fun z29_25 ez29_25 => ?_
   refine Ok.it (fun c => ?_) (fun c => ?_)
   · try simp only [ez29_25, dT] at c
     refine Ok.bv fun z31_27 ez31_27 => ?_
     refine Ok.it (fun c => ?_) (fun c => ?_)
     · try simp only [ez31_27, dT] at c
       refine Ok.bv fun z33_29 ez33_29 => ?_
       have rz33_29 := (wI64 ez33_29).1
       try replace ez33_29 := (wI64 ez33_29).2 (by omega)
       exact hJ11 _ (by first | trivial | assumption | omega | (simp only; omega) | (simp only; assumption) | (simp; omega) | (simp; done))
     · try simp only [ez31_27, dF] at c
       refine Ok.bv fun z35_30 ez35_30 => ?_
       have rz35_30 := (wI64 ez35_30).1
       try replace ez35_30 := (wI64 ez35_30).2 (by omega)
       exact hJ11 _ (by first | trivial | assumption | omega | (simp only; omega) | (simp only; assumption) | (simp; omega) | (simp; done))
   · try simp only [ez29_25, dF] at c
     exact hJ11 _ (by first | trivial | assumption | omega | (simp only; omega) | (simp only; assumption) | (simp; omega) | (simp; done))
  clear eJ9
  refine Ok.bv fun z22_31 ez22_31 => ?_
  refine Ok.it (fun c => ?_) (fun c => ?_)
  · try simp only [ez22_31, dT] at c
    refine Ok.bv fun z24_33 ez24_33 => ?_
    have rz24_33 := (wI64 ez24_33).1
    try replace ez24_33 := (wI64 ez24_33).2 (by omega)
    exact hJ9 _ (by first | trivial | assumption | omega | (simp only; omega) | (simp only; assumption) | (simp; omega) | (simp; done))
  · try simp only [ez22_31, dF] at c
    exact hJ9 _ (by first | trivial | assumption | omega | (simp only; omega) | (simp only; assumption) | (simp; omega) | (simp; done))
 clear eJ3
 refine Ok.bv fun z9_34 ez9_34 => ?_
 have rz9_34 := (wI64 ez9_34).1
 try replace ez9_34 := (wI64 ez9_34).2 (by omega)
 refine Ok.bv fun B36 eB36 => ?_
 subst eB36
 refine Ok.lp (fun s36 : Int × Int => ∃ k : Nat, s36.2 = (k : Int) ∧ k ≤ 12 ∧ s36.1 = ((10 ^ k : Nat) : Int) ∧ (k : Int) ≤ z9_34) (fun s36 => (z9_34 - s36.2).toNat) (by exact ⟨0, rfl, by decide, rfl, by omega⟩) (by first | (simp only; omega) | (simp; omega) | (simp; done)) fun s36 hs36 nextn36 ihn36 => ?_
 obtain ⟨k, hk1, hk2, hk3, hk4⟩ := hs36
 have hp : (10 ^ k : Nat) ≤ 1000000000000 := Nat.pow_le_pow_right (n := 10) (by decide) hk2
 have hp1 : 1 ≤ (10 ^ k : Nat) := Nat.pow_pos (by decide)
 refine Ok.bv fun z11_38 ez11_38 => ?_
 refine Ok.it (fun c => ?_) (fun c => ?_)
 · try simp only [ez11_38, dT] at c
   refine Ok.bv fun z13_42 ez13_42 => ?_
   have rz13_42 := (wI64 ez13_42).1
   try replace ez13_42 := (wI64 ez13_42).2 (by omega)
   refine Ok.bv fun z14_43 ez14_43 => ?_
   have rz14_43 := (wI64 ez14_43).1
   try replace ez14_43 := (wI64 ez14_43).2 (by omega)
   exact ihn36 _ (by refine ⟨k + 1, by simp only; omega, by omega, ?_, by omega⟩; simp only [ez13_42]; rw [Nat.pow_succ]; omega) (by first | (simp only; omega) | (simp; omega) | (simp; done))
 · try simp only [ez11_38, dF] at c
   exact hJ3 _ (by first | trivial | assumption | omega | (simp only; omega) | (simp only; assumption) | (simp; omega) | (simp; done))
theorem lists_numbers_tot {x0 : List (V)} (hl : x0.length ≤ 1000) (hx : ∀ x ∈ x0, Rt x) : Ok (lists_numbers x0) (fun r => r.length ≤ x0.length ∧ ∀ x ∈ r, -9223372036854775807 ≤ x ∧ x ≤ 9223372036854775807) := by
 unfold lists_numbers
 refine Ok.bv fun J2 eJ2 => ?_
 have hJ2 : ∀ s2 : (List (Int)), (s2.length ≤ x0.length ∧ ∀ x ∈ s2, -9223372036854775807 ≤ x ∧ x ≤ 9223372036854775807) → Ok (J2 s2) (fun r => r.length ≤ x0.length ∧ ∀ x ∈ r, -9223372036854775807 ≤ x ∧ x ≤ 9223372036854775807) := by
  intro s2 hs2
  rw [eJ2]
  exact Ok.sm (by first | trivial | assumption | omega | (simp only; omega))
 clear eJ2
 refine Ok.bv fun B5 eB5 => ?_
 subst eB5
 refine Ok.lp (fun s5 : Int × (List (Int)) => (0 ≤ s5.1 ∧ s5.1 ≤ (x0.length : Int)) ∧ (s5.2.length : Int) ≤ s5.1 ∧ ∀ x ∈ s5.2, -9223372036854775807 ≤ x ∧ x ≤ 9223372036854775807) (fun s5 => ((x0.length : Int) - s5.1).toNat) (by refine ⟨by simp only; omega, by simp, fun x hx => ?_⟩; cases hx) (by first | (simp only; omega) | (simp; omega) | (simp; done)) fun s5 hs5 nextn5 ihn5 => ?_
 refine Ok.bv fun z9_8 ez9_8 => ?_
 refine Ok.it (fun c => ?_) (fun c => ?_)
 · try simp only [ez9_8, dT] at c
   refine Ok.ckf (by first | omega | decide | (simp; omega) | (simp; done)) fun k1 => ?_
   refine Ok.bv fun z10_13 ez10_13 => ?_
   have hz := Rt.n (gelP hx ez10_13 (by omega))
   refine Ok.bv fun z14_15 ez14_15 => ?_
   refine Ok.it (fun c => ?_) (fun c => ?_)
   · try simp only [ez14_15, dT] at c
     refine Ok.ckf (by first | omega | decide | (simp; omega) | (simp; done)) fun k2 => ?_
     refine Ok.bv fun z19_20 ez19_20 => ?_
     refine Ok.bv fun z20_21 ez20_21 => ?_
     have rz20_21 := (wI64 ez20_21).1
     try replace ez20_21 := (wI64 ez20_21).2 (by omega)
     exact ihn5 _ (by refine ⟨by simp only; omega, by simp only [ez19_20, List.length_append, List.length_singleton]; omega, ?_⟩; simp only [ez19_20]; exact all_snoc hs5.2.2 hz) (by first | (simp only; omega) | (simp; omega) | (simp; done))
   · try simp only [ez14_15, dF] at c
     refine Ok.bv fun z20_22 ez20_22 => ?_
     have rz20_22 := (wI64 ez20_22).1
     try replace ez20_22 := (wI64 ez20_22).2 (by omega)
     exact ihn5 _ (by refine ⟨by simp only; omega, by simp only; omega, hs5.2.2⟩) (by first | (simp only; omega) | (simp; omega) | (simp; done))
 · try simp only [ez9_8, dF] at c
   exact hJ2 _ (by exact ⟨by omega, hs5.2.2⟩)
theorem lists_Sum_tot {x0 : List (V)} (hl : x0.length ≤ 1000) (hx : ∀ x ∈ x0, Rt x) : Ok (lists_Sum x0) (fun r => Rt r ∧ (r.k = 4 ∨ r.k = 1)) := by
 unfold lists_Sum
 refine Ok.bv fun J3 eJ3 => ?_
 have hJ3 : ∀ s3 : Int × Bool, (s3.2 = true → -9223372036854775807 ≤ s3.1 ∧ s3.1 ≤ 9223372036854775807) → Ok (J3 s3) (fun r => Rt r ∧ (r.k = 4 ∨ r.k = 1)) := by
  intro s3 hs3
  rw [eJ3]
  refine Ok.ob (value_Made_tot hs3) fun y24_4 ey24_4 hy24_4 => ?_
  exact Ok.sm (by first | exact hy24_4 | exact hy24_4.1 | first | trivial | assumption | omega | (simp only; omega))
 clear eJ3
 refine Ok.ob (lists_numbers_tot (by first | trivial | assumption | omega | (simp only; omega) | (simp only; assumption) | (simp; omega) | (simp; done)) (by first | trivial | assumption | omega | (simp only; omega) | (simp only; assumption) | (simp; omega) | (simp; done))) fun y8_5 ey8_5 hy8_5 => ?_
 obtain ⟨hyl, hyy⟩ := hy8_5
 refine Ok.bv fun B8 eB8 => ?_
 subst eB8
 refine Ok.lp (fun s8 : Int × Bool × Int => (0 ≤ s8.2.2 ∧ s8.2.2 ≤ (y8_5.length : Int)) ∧ (s8.2.1 = true → -9223372036854775807 ≤ s8.1 ∧ s8.1 ≤ 9223372036854775807)) (fun s8 => ((y8_5.length : Int) - s8.2.2).toNat) (by exact ⟨by simp only; omega, fun _ => ⟨by decide, by decide⟩⟩) (by first | (simp only; omega) | (simp; omega) | (simp; done)) fun s8 hs8 nextn8 ihn8 => ?_
 refine Ok.bv fun z11_10 ez11_10 => ?_
 refine Ok.it (fun c => ?_) (fun c => ?_)
 · try simp only [ez11_10, dT] at c
   refine Ok.ckf (by first | omega | decide | (simp; omega) | (simp; done)) fun k1 => ?_
   refine Ok.bv fun z12_15 ez12_15 => ?_
   refine Ok.it (fun c => ?_) (fun c => ?_)
   · refine Ok.ob (num_Add_tot _ _) fun y18_17 ey18_17 hy18_17 => ?_
     refine Ok.bv fun z21_18 ez21_18 => ?_
     have rz21_18 := (wI64 ez21_18).1
     try replace ez21_18 := (wI64 ez21_18).2 (by omega)
     exact ihn8 _ (by exact ⟨by simp only; omega, hy18_17⟩) (by first | (simp only; omega) | (simp; omega) | (simp; done))
   · refine Ok.bv fun z21_19 ez21_19 => ?_
     have rz21_19 := (wI64 ez21_19).1
     try replace ez21_19 := (wI64 ez21_19).2 (by omega)
     exact ihn8 _ (by exact ⟨by simp only; omega, hs8.2⟩) (by first | (simp only; omega) | (simp; omega) | (simp; done))
 · try simp only [ez11_10, dF] at c
   exact hJ3 _ (by exact hs8.2)
theorem lists_Extreme_tot {x0 : Bool} {x1 : List (V)} (hl : x1.length ≤ 1000) (hx : ∀ x ∈ x1, Rt x) : Ok (lists_Extreme x0 x1) (fun r => Rt r ∧ (r.k = 4 ∨ r.k = 1)) := by
 unfold lists_Extreme
 refine Ok.ob (lists_numbers_tot (by first | trivial | assumption | omega | (simp only; omega) | (simp only; assumption) | (simp; omega) | (simp; done)) (by first | trivial | assumption | omega | (simp only; omega) | (simp only; assumption) | (simp; omega) | (simp; done))) fun y10_2 ey10_2 hy10_2 => ?_
 obtain ⟨hyl, hyy⟩ := hy10_2
 refine Ok.bv fun z13_5 ez13_5 => ?_
 refine Ok.it (fun c => ?_) (fun c => ?_)
 · try simp only [ez13_5, dT] at c
   refine Ok.ob (value_Num_tot (by first | trivial | assumption | omega | (simp only; omega) | (simp only; assumption) | (simp; omega) | (simp; done))) fun y14_7 ey14_7 hy14_7 => ?_
   exact Ok.sm (by first | exact hy14_7 | exact hy14_7.1 | first | trivial | assumption | omega | (simp only; omega))
 · try simp only [ez13_5, dF] at c
   refine Ok.ckf (by first | omega | decide | (simp; omega) | (simp; done)) fun k1 => ?_
   refine Ok.bv fun z16_9 ez16_9 => ?_
   have hz := gelP hyy ez16_9 (by omega)
   refine Ok.bv fun J11 eJ11 => ?_
   have hJ11 : ∀ s11 : Int, (-9223372036854775807 ≤ s11 ∧ s11 ≤ 9223372036854775807) → Ok (J11 s11) (fun r => Rt r ∧ (r.k = 4 ∨ r.k = 1)) := by
    intro s11 hs11
    rw [eJ11]
    refine Ok.ob (value_Num_tot (by first | trivial | assumption | omega | (simp only; omega) | (simp only; assumption) | (simp; omega) | (simp; done))) fun y37_12 ey37_12 hy37_12 => ?_
    exact Ok.sm (by first | exact hy37_12 | exact hy37_12.1 | first | trivial | assumption | omega | (simp only; omega))
   clear eJ11
   refine Ok.bv fun B14 eB14 => ?_
   subst eB14
   refine Ok.lp (fun s14 : Int × Int => (0 ≤ s14.2 ∧ s14.2 ≤ (y10_2.length : Int)) ∧ (-9223372036854775807 ≤ s14.1 ∧ s14.1 ≤ 9223372036854775807)) (fun s14 => ((y10_2.length : Int) - s14.2).toNat) (by first | trivial | omega | (simp only; omega) | (simp only; refine ⟨by omega, ?_⟩; first | assumption | omega) | (simp; omega) | (simp; done)) (by first | (simp only; omega) | (simp; omega) | (simp; done)) fun s14 hs14 nextn14 ihn14 => ?_
   refine Ok.bv fun z21_16 ez21_16 => ?_
   refine Ok.it (fun c => ?_) (fun c => ?_)
   · try simp only [ez21_16, dT] at c
     refine Ok.ckf (by first | omega | decide | (simp; omega) | (simp; done)) fun k2 => ?_
     refine Ok.bv fun z22_21 ez22_21 => ?_
     have hz2 := gelP hyy ez22_21 (by omega)
     refine Ok.bv fun z26_22 ez26_22 => ?_
     refine Ok.bv fun z28_23 ez28_23 => ?_
     refine Ok.bv fun z32_24 ez32_24 => ?_
     refine Ok.bv fun z33_25 ez33_25 => ?_
     refine Ok.it (fun c => ?_) (fun c => ?_)
     · try simp only [ez33_25, ez32_24, ez28_23, ez26_22, BL] at c
       refine Ok.bv fun z35_27 ez35_27 => ?_
       have rz35_27 := (wI64 ez35_27).1
       try replace ez35_27 := (wI64 ez35_27).2 (by omega)
       exact ihn14 _ (by first | trivial | omega | (simp only; omega) | (simp only; refine ⟨by omega, ?_⟩; first | assumption | omega) | (simp; omega) | (simp; done)) (by first | (simp only; omega) | (simp; omega) | (simp; done))
     · try simp only [ez33_25, ez32_24, ez28_23, ez26_22, BL] at c
       refine Ok.bv fun z35_28 ez35_28 => ?_
       have rz35_28 := (wI64 ez35_28).1
       try replace ez35_28 := (wI64 ez35_28).2 (by omega)
       exact ihn14 _ (by first | trivial | omega | (simp only; omega) | (simp only; refine ⟨by omega, ?_⟩; first | assumption | omega) | (simp; omega) | (simp; done)) (by first | (simp only; omega) | (simp; omega) | (simp; done))
   · try simp only [ez21_16, dF] at c
     exact hJ11 _ (by first | trivial | assumption | omega | (simp only; omega) | (simp only; assumption) | (simp; omega) | (simp; done))
theorem lists_equal_tot {x0 : V} {x1 : V}  : Ok (lists_equal x0 x1) (fun _ => True) := by
 unfold lists_equal
 refine Ok.bv fun z9_3 ez9_3 => ?_
 refine Ok.bv fun z15_4 ez15_4 => ?_
 refine Ok.bv fun z16_5 ez16_5 => ?_
 refine Ok.bv fun z22_6 ez22_6 => ?_
 refine Ok.bv fun z23_7 ez23_7 => ?_
 exact Ok.sm (by first | trivial | assumption | omega | (simp only; omega))
theorem lists_Count_tot {x0 : Int} {x1 : Bool} {x2 : List (V)} (hl : x2.length ≤ 1000) : Ok (lists_Count x0 x1 x2) (fun r => Rt r ∧ (r.k = 4 ∨ r.k = 1)) := by
 unfold lists_Count
 refine Ok.bv fun J3 eJ3 => ?_
 have hJ3 : ∀ s3 : Int, (True) → Ok (J3 s3) (fun r => Rt r ∧ (r.k = 4 ∨ r.k = 1)) := by
  intro s3 hs3
  rw [eJ3]
  refine Ok.ob (num_Of_tot) fun y26_4 ey26_4 hy26_4 => ?_
  refine Ok.ob (value_Made_tot (fun _ => hy26_4)) fun y29_5 ey29_5 hy29_5 => ?_
  exact Ok.sm (by first | exact hy29_5 | exact hy29_5.1 | first | trivial | assumption | omega | (simp only; omega))
 clear eJ3
 refine Ok.bv fun B7 eB7 => ?_
 subst eB7
 refine Ok.lp (fun s7 : Int × Int => (0 ≤ s7.2 ∧ s7.2 ≤ (x2.length : Int))) (fun s7 => ((x2.length : Int) - s7.2).toNat) (by first | trivial | omega | (simp only; omega) | (simp only; refine ⟨by omega, ?_⟩; first | assumption | omega) | (simp; omega) | (simp; done)) (by first | (simp only; omega) | (simp; omega) | (simp; done)) fun s7 hs7 nextn7 ihn7 => ?_
 refine Ok.bv fun z13_9 ez13_9 => ?_
 refine Ok.it (fun c => ?_) (fun c => ?_)
 · try simp only [ez13_9, dT] at c
   refine Ok.ckf (by first | omega | decide | (simp; omega) | (simp; done)) fun k1 => ?_
   refine Ok.bv fun z14_14 ez14_14 => ?_
   refine Ok.bv fun z19_16 ez19_16 => ?_
   refine Ok.bv fun z21_17 ez21_17 => ?_
   refine Ok.it (fun c => ?_) (fun c => ?_)
   · try simp only [ez21_17, ez19_16, BL] at c
     refine Ok.bv fun z23_19 ez23_19 => ?_
     have rz23_19 := (wI64 ez23_19).1
     try replace ez23_19 := (wI64 ez23_19).2 (by omega)
     refine Ok.bv fun z24_20 ez24_20 => ?_
     have rz24_20 := (wI64 ez24_20).1
     try replace ez24_20 := (wI64 ez24_20).2 (by omega)
     exact ihn7 _ (by first | trivial | omega | (simp only; omega) | (simp only; refine ⟨by omega, ?_⟩; first | assumption | omega) | (simp; omega) | (simp; done)) (by first | (simp only; omega) | (simp; omega) | (simp; done))
   · try simp only [ez21_17, ez19_16, BL] at c
     refine Ok.bv fun z24_21 ez24_21 => ?_
     have rz24_21 := (wI64 ez24_21).1
     try replace ez24_21 := (wI64 ez24_21).2 (by omega)
     exact ihn7 _ (by first | trivial | omega | (simp only; omega) | (simp only; refine ⟨by omega, ?_⟩; first | assumption | omega) | (simp; omega) | (simp; done)) (by first | (simp only; omega) | (simp; omega) | (simp; done))
 · try simp only [ez13_9, dF] at c
   exact hJ3 _ (by first | trivial | assumption | omega | (simp only; omega) | (simp only; assumption) | (simp; omega) | (simp; done))
theorem lists_CountIf_tot {x0 : V} {x1 : List (V)} (hl : x1.length ≤ 1000) : Ok (lists_CountIf x0 x1) (fun r => Rt r ∧ (r.k = 4 ∨ r.k = 1)) := by
 unfold lists_CountIf
 refine Ok.bv fun J4 eJ4 => ?_
 have hJ4 : ∀ s4 : Int, (True) → Ok (J4 s4) (fun r => Rt r ∧ (r.k = 4 ∨ r.k = 1)) := by
  intro s4 hs4
  rw [eJ4]
  refine Ok.ob (num_Of_tot) fun y21_5 ey21_5 hy21_5 => ?_
  refine Ok.ob (value_Made_tot (fun _ => hy21_5)) fun y24_6 ey24_6 hy24_6 => ?_
  exact Ok.sm (by first | exact hy24_6 | exact hy24_6.1 | first | trivial | assumption | omega | (simp only; omega))
 clear eJ4
 refine Ok.bv fun B8 eB8 => ?_
 subst eB8
 refine Ok.lp (fun s8 : Int × Int => (0 ≤ s8.2 ∧ s8.2 ≤ (x1.length : Int))) (fun s8 => ((x1.length : Int) - s8.2).toNat) (by first | trivial | omega | (simp only; omega) | (simp only; refine ⟨by omega, ?_⟩; first | assumption | omega) | (simp; omega) | (simp; done)) (by first | (simp only; omega) | (simp; omega) | (simp; done)) fun s8 hs8 nextn8 ihn8 => ?_
 refine Ok.bv fun z11_10 ez11_10 => ?_
 refine Ok.it (fun c => ?_) (fun c => ?_)
 · try simp only [ez11_10, dT] at c
   refine Ok.ckf (by first | omega | decide | (simp; omega) | (simp; done)) fun k1 => ?_
   refine Ok.bv fun z12_15 ez12_15 => ?_
   refine Ok.ob (lists_equal_tot) fun y16_17 ey16_17 hy16_17 => ?_
   refine Ok.it (fun c => ?_) (fun c => ?_)
   · refine Ok.bv fun z18_19 ez18_19 => ?_
     have rz18_19 := (wI64 ez18_19).1
     try replace ez18_19 := (wI64 ez18_19).2 (by omega)
     refine Ok.bv fun z19_20 ez19_20 => ?_
     have rz19_20 := (wI64 ez19_20).1
     try replace ez19_20 := (wI64 ez19_20).2 (by omega)
     exact ihn8 _ (by first | trivial | omega | (simp only; omega) | (simp only; refine ⟨by omega, ?_⟩; first | assumption | omega) | (simp; omega) | (simp; done)) (by first | (simp only; omega) | (simp; omega) | (simp; done))
   · refine Ok.bv fun z19_21 ez19_21 => ?_
     have rz19_21 := (wI64 ez19_21).1
     try replace ez19_21 := (wI64 ez19_21).2 (by omega)
     exact ihn8 _ (by first | trivial | omega | (simp only; omega) | (simp only; refine ⟨by omega, ?_⟩; first | assumption | omega) | (simp; omega) | (simp; done)) (by first | (simp only; omega) | (simp; omega) | (simp; done))
 · try simp only [ez11_10, dF] at c
   exact hJ4 _ (by first | trivial | assumption | omega | (simp only; omega) | (simp only; assumption) | (simp; omega) | (simp; done))
theorem lists_SumIf_tot {x0 : V} {x1 : List (V)} (hl : x1.length ≤ 1000) (hx : ∀ x ∈ x1, Rt x) : Ok (lists_SumIf x0 x1) (fun r => Rt r ∧ (r.k = 4 ∨ r.k = 1)) := by
 unfold lists_SumIf
 refine Ok.bv fun J4 eJ4 => ?_
 have hJ4 : ∀ s4 : (List (V)), (s4.length ≤ 1000 ∧ ∀ x ∈ s4, Rt x) → Ok (J4 s4) (fun r => Rt r ∧ (r.k = 4 ∨ r.k = 1)) := by
  intro s4 hs4
  rw [eJ4]
  refine Ok.ob (lists_Sum_tot hs4.1 hs4.2) fun y23_6 ey23_6 hy23_6 => ?_
  exact Ok.sm (by first | exact hy23_6 | exact hy23_6.1 | first | trivial | assumption | omega | (simp only; omega))
 clear eJ4
 refine Ok.bv fun B8 eB8 => ?_
 subst eB8
 refine Ok.lp (fun s8 : Int × (List (V)) => (0 ≤ s8.1 ∧ s8.1 ≤ (x1.length : Int)) ∧ (s8.2.length : Int) ≤ s8.1 ∧ ∀ x ∈ s8.2, Rt x) (fun s8 => ((x1.length : Int) - s8.1).toNat) (by refine ⟨by simp only; omega, by simp, fun x hx => ?_⟩; cases hx) (by first | (simp only; omega) | (simp; omega) | (simp; done)) fun s8 hs8 nextn8 ihn8 => ?_
 refine Ok.bv fun z11_11 ez11_11 => ?_
 refine Ok.it (fun c => ?_) (fun c => ?_)
 · try simp only [ez11_11, dT] at c
   refine Ok.ckf (by first | omega | decide | (simp; omega) | (simp; done)) fun k1 => ?_
   refine Ok.bv fun z12_16 ez12_16 => ?_
   have hz := gelP hx ez12_16 (by omega)
   refine Ok.ob (lists_equal_tot) fun y16_18 ey16_18 hy16_18 => ?_
   refine Ok.it (fun c => ?_) (fun c => ?_)
   · refine Ok.ckf (by first | omega | decide | (simp; omega) | (simp; done)) fun k2 => ?_
     refine Ok.bv fun z20_23 ez20_23 => ?_
     refine Ok.bv fun z21_24 ez21_24 => ?_
     have rz21_24 := (wI64 ez21_24).1
     try replace ez21_24 := (wI64 ez21_24).2 (by omega)
     exact ihn8 _ (by refine ⟨by simp only; omega, by simp only [ez20_23, List.length_append, List.length_singleton]; omega, ?_⟩; simp only [ez20_23]; exact all_snoc hs8.2.2 hz) (by first | (simp only; omega) | (simp; omega) | (simp; done))
   · refine Ok.bv fun z21_25 ez21_25 => ?_
     have rz21_25 := (wI64 ez21_25).1
     try replace ez21_25 := (wI64 ez21_25).2 (by omega)
     exact ihn8 _ (by refine ⟨by simp only; omega, by simp only; omega, hs8.2.2⟩) (by first | (simp only; omega) | (simp; omega) | (simp; done))
 · try simp only [ez11_11, dF] at c
   exact hJ4 _ (by exact ⟨by omega, hs8.2.2⟩)
theorem lists_Match_tot {x0 : V} {x1 : List (V)} (hl : x1.length ≤ 1000) : Ok (lists_Match x0 x1) (fun r => Rt r ∧ (r.k = 4 ∨ r.k = 1)) := by
 unfold lists_Match
 refine Ok.bv fun J4 eJ4 => ?_
 have hJ4 : ∀ s4 : Int × Int × (List UInt8), (True) → Ok (J4 s4) (fun r => Rt r ∧ (r.k = 4 ∨ r.k = 1)) := by
  intro s4 hs4
  rw [eJ4]
  refine Ok.ob (value_Fail_tot (by first | trivial | assumption | omega | (simp only; omega) | (simp only; assumption) | (simp; omega) | (simp; done))) fun y24_5 ey24_5 hy24_5 => ?_
  exact Ok.sm (by first | exact hy24_5 | exact hy24_5.1 | first | trivial | assumption | omega | (simp only; omega))
 clear eJ4
 refine Ok.bv fun B7 eB7 => ?_
 subst eB7
 refine Ok.lp (fun s7 : Int × Int × Int × (List UInt8) => (0 ≤ s7.1 ∧ s7.1 ≤ (x1.length : Int))) (fun s7 => ((x1.length : Int) - s7.1).toNat) (by first | trivial | omega | (simp only; omega) | (simp only; refine ⟨by omega, ?_⟩; first | assumption | omega) | (simp; omega) | (simp; done)) (by first | (simp only; omega) | (simp; omega) | (simp; done)) fun s7 hs7 nextn7 ihn7 => ?_
 refine Ok.bv fun z10_9 ez10_9 => ?_
 refine Ok.it (fun c => ?_) (fun c => ?_)
 · try simp only [ez10_9, dT] at c
   refine Ok.ckf (by first | omega | decide | (simp; omega) | (simp; done)) fun k1 => ?_
   refine Ok.bv fun z12_14 ez12_14 => ?_
   refine Ok.ob (lists_equal_tot) fun y16_16 ey16_16 hy16_16 => ?_
   refine Ok.it (fun c => ?_) (fun c => ?_)
   · refine Ok.bv fun z18_18 ez18_18 => ?_
     have rz18_18 := (wI64 ez18_18).1
     try replace ez18_18 := (wI64 ez18_18).2 (by omega)
     refine Ok.ob (num_Of_tot) fun y19_19 ey19_19 hy19_19 => ?_
     refine Ok.ob (value_Made_tot (fun _ => hy19_19)) fun y22_20 ey22_20 hy22_20 => ?_
     exact Ok.sm (by first | exact hy22_20 | exact hy22_20.1 | first | trivial | assumption | omega | (simp only; omega))
   · refine Ok.bv fun z23_21 ez23_21 => ?_
     have rz23_21 := (wI64 ez23_21).1
     try replace ez23_21 := (wI64 ez23_21).2 (by omega)
     exact ihn7 _ (by first | trivial | omega | (simp only; omega) | (simp only; refine ⟨by omega, ?_⟩; first | assumption | omega) | (simp; omega) | (simp; done)) (by first | (simp only; omega) | (simp; omega) | (simp; done))
 · try simp only [ez10_9, dF] at c
   exact hJ4 _ (by first | trivial | assumption | omega | (simp only; omega) | (simp only; assumption) | (simp; omega) | (simp; done))
theorem maths_power_tot {x0 : Int} {x1 : Int} (h0 : -9223372036854775808 ≤ x0 ∧ x0 ≤ 9223372036854775807) (h1 : x1 ≤ 64) : Ok (maths_power x0 x1) (fun r => Rt r ∧ (r.k = 4 ∨ r.k = 1)) := by
 unfold maths_power
 refine Ok.ob (num_Of_tot) fun y8_2 ey8_2 hy8_2 => ?_
 refine Ok.bv fun J4 eJ4 => ?_
 have hJ4 : ∀ s4 : Int × Bool, (-9223372036854775807 ≤ s4.1 ∧ s4.1 ≤ 9223372036854775807) → Ok (J4 s4) (fun r => Rt r ∧ (r.k = 4 ∨ r.k = 1)) := by
  intro s4 hs4
  rw [eJ4]
  refine Ok.ob (value_Made_tot (fun _ => hs4)) fun y24_5 ey24_5 hy24_5 => ?_
  exact Ok.sm (by first | exact hy24_5 | exact hy24_5.1 | first | trivial | assumption | omega | (simp only; omega))
 clear eJ4
 refine Ok.bv fun B7 eB7 => ?_
 subst eB7
 refine Ok.lp (fun s7 : Int × Bool × Int => (0 ≤ s7.2.2) ∧ -9223372036854775807 ≤ s7.1 ∧ s7.1 ≤ 9223372036854775807) (fun s7 => (x1 - s7.2.2).toNat) (by first | trivial | omega | (simp only; omega) | (simp only; refine ⟨by omega, ?_⟩; first | assumption | omega) | (simp; omega) | (simp; done)) (by first | (simp only; omega) | (simp; omega) | (simp; done)) fun s7 hs7 nextn7 ihn7 => ?_
 refine Ok.bv fun z13_9 ez13_9 => ?_
 refine Ok.it (fun c => ?_) (fun c => ?_)
 · try simp only [ez13_9, dT] at c
   refine Ok.it (fun c => ?_) (fun c => ?_)
   · refine Ok.ob (num_Mul_tot (by omega) (by omega)) fun y18_14 ey18_14 hy18_14 => ?_
     refine Ok.bv fun z21_15 ez21_15 => ?_
     have rz21_15 := (wI64 ez21_15).1
     try replace ez21_15 := (wI64 ez21_15).2 (by omega)
     exact ihn7 _ (by first | trivial | omega | (simp only; omega) | (simp only; refine ⟨by omega, ?_⟩; first | assumption | omega) | (simp; omega) | (simp; done)) (by first | (simp only; omega) | (simp; omega) | (simp; done))
   · refine Ok.bv fun z21_16 ez21_16 => ?_
     have rz21_16 := (wI64 ez21_16).1
     try replace ez21_16 := (wI64 ez21_16).2 (by omega)
     exact ihn7 _ (by first | trivial | omega | (simp only; omega) | (simp only; refine ⟨by omega, ?_⟩; first | assumption | omega) | (simp; omega) | (simp; done)) (by first | (simp only; omega) | (simp; omega) | (simp; done))
 · try simp only [ez13_9, dF] at c
   exact hJ4 _ (by first | trivial | assumption | omega | (simp only; omega) | (simp only; assumption) | (simp; omega) | (simp; done))
theorem lists_Product_tot {x0 : List (V)} (hl : x0.length ≤ 1000) (hx : ∀ x ∈ x0, Rt x) : Ok (lists_Product x0) (fun r => Rt r ∧ (r.k = 4 ∨ r.k = 1)) := by
 unfold lists_Product
 refine Ok.ob (lists_numbers_tot (by first | trivial | assumption | omega | (simp only; omega) | (simp only; assumption) | (simp; omega) | (simp; done)) (by first | trivial | assumption | omega | (simp only; omega) | (simp only; assumption) | (simp; omega) | (simp; done))) fun y9_2 ey9_2 hy9_2 => ?_
 obtain ⟨hyl, hyy⟩ := hy9_2
 refine Ok.bv fun z12_5 ez12_5 => ?_
 refine Ok.it (fun c => ?_) (fun c => ?_)
 · try simp only [ez12_5, dT] at c
   refine Ok.ob (value_Num_tot (by first | trivial | assumption | omega | (simp only; omega) | (simp only; assumption) | (simp; omega) | (simp; done))) fun y13_7 ey13_7 hy13_7 => ?_
   exact Ok.sm (by first | exact hy13_7 | exact hy13_7.1 | first | trivial | assumption | omega | (simp only; omega))
 · try simp only [ez12_5, dF] at c
   refine Ok.ckf (by first | omega | decide | (simp; omega) | (simp; done)) fun k1 => ?_
   refine Ok.bv fun z15_9 ez15_9 => ?_
   have gz15_9 := gelP hyy ez15_9 (by omega)
   have hz := gelP hyy ez15_9 (by omega)
   refine Ok.bv fun J11 eJ11 => ?_
   have hJ11 : ∀ s11 : Int × Bool, (-9223372036854775807 ≤ s11.1 ∧ s11.1 ≤ 9223372036854775807) → Ok (J11 s11) (fun r => Rt r ∧ (r.k = 4 ∨ r.k = 1)) := by
    intro s11 hs11
    rw [eJ11]
    refine Ok.ob (value_Made_tot (fun _ => hs11)) fun y34_12 ey34_12 hy34_12 => ?_
    exact Ok.sm (by first | exact hy34_12 | exact hy34_12.1 | first | trivial | assumption | omega | (simp only; omega))
   clear eJ11
   refine Ok.ckf (by first | omega | decide | (simp; omega) | (simp; done)) fun k2 => ?_
   refine Ok.bv fun z18_14 ez18_14 => ?_
   have lz18_14 := cutL_len y9_2 (1 : Int) (y9_2.length : Int) (by omega)
   rw [← ez18_14] at lz18_14
   have az18_14 := all_cut hyy (1 : Int) (y9_2.length : Int)
   rw [← ez18_14] at az18_14
   refine Ok.bv fun B17 eB17 => ?_
   subst eB17
   refine Ok.lp (fun s17 : Int × Bool × Int => (0 ≤ s17.2.2 ∧ s17.2.2 ≤ (z18_14.length : Int)) ∧ (-9223372036854775807 ≤ s17.1 ∧ s17.1 ≤ 9223372036854775807)) (fun s17 => ((z18_14.length : Int) - s17.2.2).toNat) (by first | trivial | omega | (simp only; omega) | (simp only; refine ⟨by omega, ?_⟩; first | assumption | omega) | (simp; omega) | (simp; done)) (by first | (simp only; omega) | (simp; omega) | (simp; done)) fun s17 hs17 nextn17 ihn17 => ?_
   refine Ok.bv fun z21_19 ez21_19 => ?_
   refine Ok.it (fun c => ?_) (fun c => ?_)
   · try simp only [ez21_19, dT] at c
     refine Ok.ckf (by first | omega | decide | (simp; omega) | (simp; done)) fun k3 => ?_
     refine Ok.bv fun z22_24 ez22_24 => ?_
     have hz2 := gelP az18_14 ez22_24 (by omega)
     refine Ok.it (fun c => ?_) (fun c => ?_)
     · refine Ok.ob (num_Mul_tot (by omega) (by omega)) fun y28_26 ey28_26 hy28_26 => ?_
       refine Ok.bv fun z31_27 ez31_27 => ?_
       have rz31_27 := (wI64 ez31_27).1
       try replace ez31_27 := (wI64 ez31_27).2 (by omega)
       exact ihn17 _ (by first | trivial | omega | (simp only; omega) | (simp only; refine ⟨by omega, ?_⟩; first | assumption | omega) | (simp; omega) | (simp; done)) (by first | (simp only; omega) | (simp; omega) | (simp; done))
     · refine Ok.bv fun z31_28 ez31_28 => ?_
       have rz31_28 := (wI64 ez31_28).1
       try replace ez31_28 := (wI64 ez31_28).2 (by omega)
       exact ihn17 _ (by first | trivial | omega | (simp only; omega) | (simp only; refine ⟨by omega, ?_⟩; first | assumption | omega) | (simp; omega) | (simp; done)) (by first | (simp only; omega) | (simp; omega) | (simp; done))
   · try simp only [ez21_19, dF] at c
     exact hJ11 _ (by first | trivial | assumption | omega | (simp only; omega) | (simp only; assumption) | (simp; omega) | (simp; done))
theorem lists_Average_tot {x0 : List (V)} (hl : x0.length ≤ 1000) (hx : ∀ x ∈ x0, Rt x) : Ok (lists_Average x0) (fun r => Rt r ∧ (r.k = 4 ∨ r.k = 1)) := by
 unfold lists_Average
 refine Ok.ob (lists_Sum_tot (by first | trivial | assumption | omega | (simp only; omega) | (simp only; assumption) | (simp; omega) | (simp; done)) (by first | trivial | assumption | omega | (simp only; omega) | (simp only; assumption) | (simp; omega) | (simp; done))) fun y6_2 ey6_2 hy6_2 => ?_
 have hn := hy6_2.1.n
 refine Ok.ob (lists_numbers_tot (by first | trivial | assumption | omega | (simp only; omega) | (simp only; assumption) | (simp; omega) | (simp; done)) (by first | trivial | assumption | omega | (simp only; omega) | (simp only; assumption) | (simp; omega) | (simp; done))) fun y8_4 ey8_4 hy8_4 => ?_
 refine Ok.bv fun z11_7 ez11_7 => ?_
 refine Ok.it (fun c => ?_) (fun c => ?_)
 · try simp only [ez11_7, dT] at c
   refine Ok.ob (value_Fail_tot (by first | trivial | assumption | omega | (simp only; omega) | (simp only; assumption) | (simp; omega) | (simp; done))) fun y12_9 ey12_9 hy12_9 => ?_
   exact Ok.sm (by first | exact hy12_9 | exact hy12_9.1 | first | trivial | assumption | omega | (simp only; omega))
 · try simp only [ez11_7, dF] at c
   refine Ok.bv fun z15_11 ez15_11 => ?_
   refine Ok.it (fun c => ?_) (fun c => ?_)
   · try simp only [ez15_11, dT] at c
     exact Ok.sm (by first | exact hy6_2 | exact hy6_2.1 | first | trivial | assumption | omega | (simp only; omega))
   · try simp only [ez15_11, dF] at c
     refine Ok.bv fun z20_13 ez20_13 => ?_
     have rz20_13 := (wI64 ez20_13).1
     try replace ez20_13 := (wI64 ez20_13).2 (by omega)
     refine Ok.ob (num_Quo_tot (by omega) (by omega)) fun y21_14 ey21_14 hy21_14 => ?_
     refine Ok.ob (value_Made_tot (fun _ => hy21_14)) fun y24_15 ey24_15 hy24_15 => ?_
     exact Ok.sm (by first | exact hy24_15 | exact hy24_15.1 | first | trivial | assumption | omega | (simp only; omega))
end Go.Sp
end
section
set_option maxRecDepth 100000
namespace Go.Sp
open Go.Stp Go.ValP
theorem cutS_len (l : List UInt8) (a b : Int) (h : 0 ≤ a ∧ a ≤ b ∧ b ≤ (l.length : Int)) : ((cutS l a b).length : Int) = b - a := by
 rw [cutS_length]
 omega
theorem lens_le : ∀ {l : List (List UInt8)}, (∀ t ∈ l, t.length ≤ 64) → Lib.lens l ≤ 64 * l.length
 | [], _ => by simp [Lib.lens]
 | a :: l, h => by
  have h1 := h a (List.mem_cons_self ..)
  have h2 := lens_le (l := l) fun t ht => h t (List.mem_cons_of_mem _ ht)
  have e : Lib.lens (a :: l) = a.length + Lib.lens l := by simp [Lib.lens]
  rw [e, List.length_cons]
  omega
theorem join_le {l : List (List UInt8)} (h : ∀ t ∈ l, t.length ≤ 64) : (Lib.join l []).length ≤ 64 * l.length := by
 cases l with
 | nil => simp [Lib.join]
 | cons a l =>
  rw [Lib.join_length, List.length_nil, Nat.zero_mul, Nat.zero_add]
  exact lens_le h
theorem rep_le {a b c : List UInt8} (ha : a.length ≤ 64) (hb : 1 ≤ b.length) (hc : c.length ≤ 64) : a.length < 4294967281 ∧ 1 ≤ b.length ∧ a.length + Lib.countB ⟨a.toArray⟩ ⟨b.toArray⟩ * c.length ≤ 140737488355328 := by
 refine ⟨by omega, hb, ?_⟩
 have h := Lib.countB_le ⟨b.toArray⟩ hb a.length ⟨a.toArray⟩ (Nat.le_refl _)
 have h2 : Lib.countB ⟨a.toArray⟩ ⟨b.toArray⟩ ≤ 64 := Nat.le_trans h ha
 have := Nat.mul_le_mul h2 hc
 omega
theorem ofB_ok (l : List UInt8) : (ofB l).length = l.length ∧ bytesOk (ofB l) = true := by
 refine ⟨by simp [ofB], ?_⟩
 unfold bytesOk ofB
 rw [List.all_map, List.all_eq_true]
 intro x _
 have := x.toNat_lt
 simp
 omega
theorem lists_Index_tot {x0 : Int} {x1 : Int} {x2 : Int} {x3 : List (V)} (hl : x3.length ≤ 1000) (hx : ∀ x ∈ x3, Rt x) (h0 : x0 = 1 ∨ x0 = 2) (h1 : -9223372036854775808 ≤ x1 ∧ x1 ≤ 9223372036854775807) (h2 : -9223372036854775808 ≤ x2 ∧ x2 ≤ 9223372036854775807) : Ok (lists_Index x0 x1 x2 x3) (Rt) := by
 rcases h0 with rfl | rfl
 all_goals
  unfold lists_Index
  refine Ok.bv fun z10_3 ez10_3 => ?_
  refine Ok.bv fun z13_4 ez13_4 => ?_
  refine Ok.bv fun z14_5 ez14_5 => ?_
  refine Ok.bv fun z17_6 ez17_6 => ?_
  refine Ok.bv fun z18_7 ez18_7 => ?_
  refine Ok.bv fun z22_8 ez22_8 => ?_
  refine Ok.bv fun z23_9 ez23_9 => ?_
  refine Ok.ckf (by first | (simp only [ez23_9, ez22_8, ez18_7, ez17_6, ez14_5, ez13_4, ez10_3, BL]; omega) | (simp [ez23_9, ez22_8, ez18_7, ez17_6, ez14_5, ez13_4, ez10_3]; omega) | (simp [ez23_9, ez22_8, ez18_7, ez17_6, ez14_5, ez13_4, ez10_3]; done) | first | omega | decide | (simp; omega) | (simp; done)) fun k1 => ?_
  refine Ok.bv fun z29_11 ez29_11 => ?_
  rw [Int.tdiv_eq_ediv_of_nonneg (by omega)] at ez29_11
  try have qz29_11 := tdiv_nat (x3.length : Int) x0
  have rz29_11 := (wI64 ez29_11).1
  try replace ez29_11 := (wI64 ez29_11).2 (by omega)
  refine Ok.bv fun z30_12 ez30_12 => ?_
  refine Ok.bv fun z31_13 ez31_13 => ?_
  refine Ok.it (fun c => ?_) (fun c => ?_)
  · try simp only [ez31_13, ez30_12, ez23_9, ez22_8, ez18_7, ez17_6, ez14_5, ez13_4, ez10_3, BL] at c
    refine Ok.ob (value_Fail_tot (by first | trivial | assumption | omega | (simp only; omega) | (simp only; assumption) | (simp; omega) | (simp; done))) fun y32_15 ey32_15 hy32_15 => ?_
    exact Ok.sm (by first | exact hy32_15 | exact hy32_15.1 | first | trivial | assumption | omega | (simp only; omega))
  · try simp only [ez31_13, ez30_12, ez23_9, ez22_8, ez18_7, ez17_6, ez14_5, ez13_4, ez10_3, BL] at c
    refine Ok.bv fun z35_16 ez35_16 => ?_
    have rz35_16 := (wI64 ez35_16).1
    try replace ez35_16 := (wI64 ez35_16).2 (by omega)
    refine Ok.bv fun z37_17 ez37_17 => ?_
    have rz37_17 := (wI64 ez37_17).1
    try replace ez37_17 := (wI64 ez37_17).2 (by omega)
    refine Ok.bv fun z39_18 ez39_18 => ?_
    have rz39_18 := (wI64 ez39_18).1
    try replace ez39_18 := (wI64 ez39_18).2 (by omega)
    refine Ok.bv fun z40_19 ez40_19 => ?_
    have rz40_19 := (wI64 ez40_19).1
    try replace ez40_19 := (wI64 ez40_19).2 (by omega)
    refine Ok.ckf (by first | omega | decide | (simp; omega) | (simp; done)) fun k2 => ?_
    refine Ok.bv fun z41_21 ez41_21 => ?_
    exact Ok.sm (by first | exact gelP (by assumption) ez41_21 (by omega) | first | trivial | assumption | omega | (simp only; omega))
theorem lists_VLookup_tot {x0 : V} {x1 : Int} {x2 : Int} {x3 : List (V)} (hl : x3.length ≤ 1000) (hx : ∀ x ∈ x3, Rt x) (h1 : 1 ≤ x1 ∧ x1 ≤ 1000) (h2 : -9223372036854775808 ≤ x2 ∧ x2 ≤ 9223372036854775807) : Ok (lists_VLookup x0 x1 x2 x3) (Rt) := by
 unfold lists_VLookup
 refine Ok.bv fun z11_4 ez11_4 => ?_
 refine Ok.bv fun z14_5 ez14_5 => ?_
 refine Ok.bv fun z15_6 ez15_6 => ?_
 refine Ok.bv fun z19_7 ez19_7 => ?_
 refine Ok.bv fun z20_8 ez20_8 => ?_
 refine Ok.it (fun c => ?_) (fun c => ?_)
 · try simp only [ez20_8, ez19_7, ez15_6, ez14_5, ez11_4, BL] at c
   refine Ok.ob (value_Fail_tot (by first | trivial | assumption | omega | (simp only; omega) | (simp only; assumption) | (simp; omega) | (simp; done))) fun y21_10 ey21_10 hy21_10 => ?_
   exact Ok.sm (by first | exact hy21_10 | exact hy21_10.1 | first | trivial | assumption | omega | (simp only; omega))
 · try simp only [ez20_8, ez19_7, ez15_6, ez14_5, ez11_4, BL] at c
   refine Ok.bv fun J12 eJ12 => ?_
   have hJ12 : ∀ s12 : Int × Int × (List UInt8), (True) → Ok (J12 s12) (Rt) := by
    intro s12 hs12
    rw [eJ12]
    refine Ok.ob (value_Fail_tot (by first | trivial | assumption | omega | (simp only; omega) | (simp only; assumption) | (simp; omega) | (simp; done))) fun y44_13 ey44_13 hy44_13 => ?_
    exact Ok.sm (by first | exact hy44_13 | exact hy44_13.1 | first | trivial | assumption | omega | (simp only; omega))
   clear eJ12
   refine Ok.bv fun B15 eB15 => ?_
   subst eB15
   refine Ok.lp (fun s15 : Int × Int × Int × (List UInt8) => 0 ≤ s15.1 ∧ s15.1 ≤ 2000) (fun s15 => (2000 - s15.1).toNat) (by first | trivial | omega | (simp only; omega) | (simp only; refine ⟨by omega, ?_⟩; first | assumption | omega) | (simp; omega) | (simp; done)) (by first | (simp only; omega) | (simp; omega) | (simp; done)) fun s15 hs15 nextn15 ihn15 => ?_
   refine Ok.bv fun z24_18 ez24_18 => ?_
   have rz24_18 := (wI64 ez24_18).1
   try replace ez24_18 := (wI64 ez24_18).2 (by omega)
   refine Ok.bv fun z27_19 ez27_19 => ?_
   refine Ok.it (fun c => ?_) (fun c => ?_)
   · try simp only [ez27_19, dT] at c
     refine Ok.ckf (by first | omega | decide | (simp; omega) | (simp; done)) fun k1 => ?_
     refine Ok.bv fun z33_23 ez33_23 => ?_
     refine Ok.ob (lists_equal_tot) fun y36_24 ey36_24 hy36_24 => ?_
     refine Ok.it (fun c => ?_) (fun c => ?_)
     · refine Ok.bv fun z40_26 ez40_26 => ?_
       have rz40_26 := (wI64 ez40_26).1
       try replace ez40_26 := (wI64 ez40_26).2 (by omega)
       refine Ok.bv fun z41_27 ez41_27 => ?_
       have rz41_27 := (wI64 ez41_27).1
       try replace ez41_27 := (wI64 ez41_27).2 (by omega)
       refine Ok.ckf (by first | omega | decide | (simp; omega) | (simp; done)) fun k2 => ?_
       refine Ok.bv fun z42_29 ez42_29 => ?_
       exact Ok.sm (by first | exact gelP (by assumption) ez42_29 (by omega) | first | trivial | assumption | omega | (simp only; omega))
     · refine Ok.bv fun z30_30 ez30_30 => ?_
       have rz30_30 := (wI64 ez30_30).1
       try replace ez30_30 := (wI64 ez30_30).2 (by omega)
       exact ihn15 _ (by first | trivial | omega | (simp only; omega) | (simp only; refine ⟨by omega, ?_⟩; first | assumption | omega) | (simp; omega) | (simp; done)) (by first | (simp only; omega) | (simp; omega) | (simp; done))
   · try simp only [ez27_19, dF] at c
     exact hJ12 _ (by first | trivial | assumption | omega | (simp only; omega) | (simp only; assumption) | (simp; omega) | (simp; done))
theorem texts_trimmed_tot {x0 : List UInt8} (hl : x0.length ≤ 100000) : Ok (texts_trimmed x0) (fun r => r.length ≤ x0.length) := by
 unfold texts_trimmed
 refine Ok.bv fun J2 eJ2 => ?_
 have hJ2 : ∀ s2 : (List UInt8), (s2.length ≤ x0.length) → Ok (J2 s2) (fun r => r.length ≤ x0.length) := by
  intro s2 hs2
  rw [eJ2]
  exact Ok.sm (by first | trivial | assumption | omega | (simp only; omega))
 clear eJ2
 refine Ok.bv fun B4 eB4 => ?_
 subst eB4
 refine Ok.lp (fun s4 : (List UInt8) × Bool × Int => (0 ≤ s4.2.2 ∧ s4.2.2 ≤ (x0.length : Int)) ∧ ((s4.1.length : Int) + (if s4.2.1 = true then 1 else 0) ≤ s4.2.2)) (fun s4 => ((x0.length : Int) - s4.2.2).toNat) (by first | trivial | omega | (simp only; omega) | (simp only; refine ⟨by omega, ?_⟩; first | assumption | omega) | (simp; omega) | (simp; done)) (by first | (simp only; omega) | (simp; omega) | (simp; done)) fun s4 hs4 nextn4 ihn4 => ?_
 refine Ok.bv fun z9_6 ez9_6 => ?_
 refine Ok.it (fun c => ?_) (fun c => ?_)
 · try simp only [ez9_6, dT] at c
   refine Ok.ckf (by first | omega | decide | (simp; omega) | (simp; done)) fun k1 => ?_
   refine Ok.bv fun z13_12 ez13_12 => ?_
   refine Ok.bv fun z14_13 ez14_13 => ?_
   refine Ok.it (fun c => ?_) (fun c => ?_)
   · try simp only [ez14_13, dT] at c
     have h1 : (s4.1.length : Int) ≤ s4.2.2 := by have h1 := hs4.2; split at h1 <;> omega
     refine Ok.bv fun z16_15 ez16_15 => ?_
     refine Ok.bv fun z27_16 ez27_16 => ?_
     have rz27_16 := (wI64 ez27_16).1
     try replace ez27_16 := (wI64 ez27_16).2 (by omega)
     exact ihn4 _ (by refine ⟨by simp only; omega, ?_⟩; simp only; split <;> omega) (by first | (simp only; omega) | (simp; omega) | (simp; done))
   · try simp only [ez14_13, dF] at c
     refine Ok.bv fun J18 eJ18 => ?_
     have hJ18 : ∀ s18 : (List UInt8), ((s18.length : Int) ≤ s4.2.2) → Ok (J18 s18) (fun r => r.length ≤ x0.length) := by
      intro s18 hs18
      rw [eJ18]
      refine Ok.bv fun z24_19 ez24_19 => ?_
      have rz24_19 := (wI64 ez24_19).1
      try replace ez24_19 := (wI64 ez24_19).2 (by omega)
      refine Ok.ckf (by first | omega | decide | (simp; omega) | (simp; done)) fun k2 => ?_
      refine Ok.bv fun z25_21 ez25_21 => ?_
      have hc := cutS_len x0 s4.2.2 z24_19 (by omega)
      rw [← ez25_21] at hc
      refine Ok.ckf (by first | omega | decide | (simp; omega) | (simp; done)) fun k3 => ?_
      refine Ok.bv fun z26_23 ez26_23 => ?_
      have ha : z26_23.length = s18.length + z25_21.length := by rw [ez26_23, List.length_append]
      refine Ok.bv fun z27_24 ez27_24 => ?_
      have rz27_24 := (wI64 ez27_24).1
      try replace ez27_24 := (wI64 ez27_24).2 (by omega)
      exact ihn4 _ (by first | trivial | omega | (simp only; omega) | (simp only; refine ⟨by omega, ?_⟩; first | assumption | omega) | (simp; omega) | (simp; done)) (by first | (simp only; omega) | (simp; omega) | (simp; done))
     clear eJ18
     refine Ok.it (fun c => ?_) (fun c => ?_)
     · rw [if_pos c] at hs4
       refine Ok.ckf (by first | omega | decide | (simp; omega) | (simp; done)) fun k4 => ?_
       refine Ok.bv fun z19_27 ez19_27 => ?_
       have ha : z19_27.length = s4.1.length + 1 := by rw [ez19_27, List.length_append]; rfl
       exact hJ18 _ (by first | trivial | assumption | omega | (simp only; omega) | (simp only; assumption) | (simp; omega) | (simp; done))
     · rw [if_neg (by simp [c])] at hs4
       exact hJ18 _ (by first | trivial | assumption | omega | (simp only; omega) | (simp only; assumption) | (simp; omega) | (simp; done))
 · try simp only [ez9_6, dF] at c
   exact hJ2 _ (by have h1 := hs4.2; split at h1 <;> omega)
theorem texts_runes_tot {x0 : List UInt8} (hl : x0.length ≤ 100000) : Ok (texts_runes x0) (fun _ => True) := by
 unfold texts_runes
 refine Ok.bv fun J2 eJ2 => ?_
 have hJ2 : ∀ s2 : Int, (True) → Ok (J2 s2) (fun _ => True) := by
  intro s2 hs2
  rw [eJ2]
  exact Ok.sm (by first | trivial | assumption | omega | (simp only; omega))
 clear eJ2
 refine Ok.bv fun B5 eB5 => ?_
 subst eB5
 refine Ok.lp (fun s5 : Int × Nat => True) (fun s5 => x0.length - s5.2) (by first | trivial | omega | (simp only; omega) | (simp only; refine ⟨by omega, ?_⟩; first | assumption | omega) | (simp; omega) | (simp; done)) (by first | (simp only; omega) | (simp; omega) | (simp; done)) fun s5 hs5 nextn5 ihn5 => ?_
 refine Ok.bv fun z7_7 ez7_7 => ?_
 refine Ok.it (fun c => ?_) (fun c => ?_)
 · try simp only [ez7_7, dT] at c
   have hn := nextP_gt c
   refine Ok.bv fun z9_11 ez9_11 => ?_
   have rz9_11 := (wI64 ez9_11).1
   try replace ez9_11 := (wI64 ez9_11).2 (by omega)
   exact ihn5 _ (by first | trivial | omega | (simp only; omega) | (simp only; refine ⟨by omega, ?_⟩; first | assumption | omega) | (simp; omega) | (simp; done)) (by first | (simp only; omega) | (simp; omega) | (simp; done))
 · try simp only [ez7_7, dF] at c
   exact hJ2 _ (by first | trivial | assumption | omega | (simp only; omega) | (simp only; assumption) | (simp; omega) | (simp; done))
theorem texts_count_tot {x0 : Int} {x1 : List UInt8} (hl : x1.length ≤ 100000) (h0 : -9223372036854775807 ≤ x0 ∧ x0 ≤ 9223372036854775807) : Ok (texts_count x0 x1) (fun r => (0 ≤ r.1 ∧ r.1 ≤ (x1.length : Int)) ∧ (r.2 = true → 0 ≤ Int.tdiv x0 1000000)) := by
 unfold texts_count
 refine Ok.bv fun z7_1 ez7_1 => ?_
 try have qz7_1 := tdiv_nat x0 1000000
 have rz7_1 := (wI64 ez7_1).1
 try replace ez7_1 := (wI64 ez7_1).2 (by omega)
 refine Ok.bv fun z9_2 ez9_2 => ?_
 refine Ok.bv fun z12_3 ez12_3 => ?_
 refine Ok.bv fun z14_4 ez14_4 => ?_
 exact Ok.sm (by refine ⟨by simp only; omega, fun h => ?_⟩; simp only at h; rw [ez14_4, dT] at h; omega)
theorem texts_turned_tot {x0 : List UInt8} {x1 : Int} {x2 : Int} (hl : x0.length ≤ 100000) : Ok (texts_turned x0 x1 x2) (fun r => r.length = x0.length) := by
 unfold texts_turned
 refine Ok.bv fun z11_2 ez11_2 => ?_
 have hob : z11_2.length = x0.length ∧ bytesOk z11_2 = true := by rw [ez11_2]; exact ofB_ok x0
 refine Ok.bv fun J4 eJ4 => ?_
 have hJ4 : ∀ s4 : (List Int), (s4.length = x0.length ∧ bytesOk s4 = true) → Ok (J4 s4) (fun r => r.length = x0.length) := by
  intro s4 hs4
  rw [eJ4]
  refine Ok.ckf (by exact hs4.2) fun k1 => ?_
  refine Ok.bv fun z38_6 ez38_6 => ?_
  exact Ok.sm (by rw [ez38_6]; simpa [toB] using hs4.1)
 clear eJ4
 refine Ok.bv fun B8 eB8 => ?_
 subst eB8
 refine Ok.lp (fun s8 : Int × (List Int) => (0 ≤ s8.1 ∧ s8.1 ≤ (z11_2.length : Int)) ∧ s8.2.length = x0.length ∧ bytesOk s8.2 = true) (fun s8 => ((z11_2.length : Int) - s8.1).toNat) (by exact ⟨by simp only; omega, hob⟩) (by first | (simp only; omega) | (simp; omega) | (simp; done)) fun s8 hs8 nextn8 ihn8 => ?_
 refine Ok.bv fun z15_10 ez15_10 => ?_
 refine Ok.it (fun c => ?_) (fun c => ?_)
 · try simp only [ez15_10, dT] at c
   refine Ok.ckf (by first | omega | decide | (simp; omega) | (simp; done)) fun k2 => ?_
   refine Ok.bv fun z18_15 ez18_15 => ?_
   refine Ok.bv fun z21_16 ez21_16 => ?_
   refine Ok.bv fun z25_17 ez25_17 => ?_
   have rz25_17 := (wU8 ez25_17).1
   try replace ez25_17 := (wU8 ez25_17).2 (by omega)
   refine Ok.bv fun z26_18 ez26_18 => ?_
   refine Ok.bv fun z27_19 ez27_19 => ?_
   refine Ok.it (fun c => ?_) (fun c => ?_)
   · try simp only [ez27_19, ez26_18, ez21_16, BL] at c
     refine Ok.bv fun z32_21 ez32_21 => ?_
     have rz32_21 := (wU8 ez32_21).1
     try replace ez32_21 := (wU8 ez32_21).2 (by omega)
     refine Ok.bv fun z34_22 ez34_22 => ?_
     have rz34_22 := (wU8 ez34_22).1
     try replace ez34_22 := (wU8 ez34_22).2 (by omega)
     refine Ok.ckf (by first | omega | decide | (simp; omega) | (simp; done)) fun k3 => ?_
     refine Ok.bv fun zb0_24 ezb0_24 => ?_
     refine Ok.bv fun z36_25 ez36_25 => ?_
     have rz36_25 := (wI64 ez36_25).1
     try replace ez36_25 := (wI64 ez36_25).2 (by omega)
     exact ihn8 _ (by refine ⟨by simp only; omega, by simp only [ezb0_24, List.length_set]; omega, ?_⟩; simp only [ezb0_24]; exact bOk_set hs8.2.2 _ rz34_22) (by first | (simp only; omega) | (simp; omega) | (simp; done))
   · try simp only [ez27_19, ez26_18, ez21_16, BL] at c
     refine Ok.bv fun z36_26 ez36_26 => ?_
     have rz36_26 := (wI64 ez36_26).1
     try replace ez36_26 := (wI64 ez36_26).2 (by omega)
     exact ihn8 _ (by exact ⟨by simp only; omega, hs8.2⟩) (by first | (simp only; omega) | (simp; omega) | (simp; done))
 · try simp only [ez15_10, dF] at c
   exact hJ4 _ (by exact hs8.2)
theorem value_ToNum_rt {x0 : V} (h : Rt x0) : Ok (value_ToNum x0) (fun r => Rt r ∧ (r.k = 4 ∨ r.k = 1)) := by
 unfold value_ToNum
 refine Ok.bv fun J6 eJ6 => ?_
 have hJ6 : ∀ s6 : Bool, (s6 = true → x0.k = 1 ∨ x0.k = 4) → Ok (J6 s6) (fun r => Rt r ∧ (r.k = 4 ∨ r.k = 1)) := by
  intro s6 hs6
  rw [eJ6]
  have hsl := h.len
  refine Ok.it (fun c => ?_) (fun c => ?_)
  · exact Ok.sm (by exact ⟨h, (hs6 c).symm⟩)
  · refine Ok.bv fun z14_8 ez14_8 => ?_
    refine Ok.it (fun c => ?_) (fun c => ?_)
    · try simp only [ez14_8, dT] at c
      refine Ok.ob (value_Num_tot (by first | trivial | assumption | omega | (simp only; omega) | (simp only; assumption) | (simp; omega) | (simp; done))) fun y15_10 ey15_10 hy15_10 => ?_
      exact Ok.sm (by first | exact hy15_10 | exact hy15_10.1 | first | trivial | assumption | omega | (simp only; omega))
    · try simp only [ez14_8, dF] at c
      refine Ok.bv fun z17_11 ez17_11 => ?_
      refine Ok.it (fun c => ?_) (fun c => ?_)
      · try simp only [ez17_11, dT] at c
        have hn : x0.n = 0 ∨ x0.n = 1 := by unfold Rt at h; omega
        refine Ok.bv fun z20_13 ez20_13 => ?_
        have rz20_13 := (wI64 ez20_13).1
        try replace ez20_13 := (wI64 ez20_13).2 (by omega)
        refine Ok.ob (value_Num_tot (by omega)) fun y21_14 ey21_14 hy21_14 => ?_
        exact Ok.sm (by first | exact hy21_14 | exact hy21_14.1 | first | trivial | assumption | omega | (simp only; omega))
      · try simp only [ez17_11, dF] at c
        refine Ok.bv fun z25_16 ez25_16 => ?_
        have ht := trim_len x0.s [45]
        refine Ok.ob (num_Parse_tot _ (by rw [ez25_16]; simp only; omega)) fun y30_17 ey30_17 hy30_17 => ?_
        refine Ok.bv fun z34_19 ez34_19 => ?_
        refine Ok.it (fun c => ?_) (fun c => ?_)
        · try simp only [ez34_19, BL] at c
          refine Ok.ob (value_Fail_tot (by first | trivial | assumption | omega | (simp only; omega) | (simp only; assumption) | (simp; omega) | (simp; done))) fun y35_21 ey35_21 hy35_21 => ?_
          exact Ok.sm (by first | exact hy35_21 | exact hy35_21.1 | first | trivial | assumption | omega | (simp only; omega))
        · try simp only [ez34_19, BL] at c
          refine Ok.bv fun J23 eJ23 => ?_
          have hJ23 : ∀ s23 : Int, (-9223372036854775807 ≤ s23 ∧ s23 ≤ 9223372036854775807) → Ok (J23 s23) (fun r => Rt r ∧ (r.k = 4 ∨ r.k = 1)) := by
           intro s23 hs23
           rw [eJ23]
           refine Ok.ob (value_Num_tot hs23) fun y40_24 ey40_24 hy40_24 => ?_
           exact Ok.sm (by first | exact hy40_24 | exact hy40_24.1 | first | trivial | assumption | omega | (simp only; omega))
          clear eJ23
          refine Ok.it (fun c => ?_) (fun c => ?_)
          · refine Ok.bv fun z38_26 ez38_26 => ?_
            have rz38_26 := (wI64 ez38_26).1
            try replace ez38_26 := (wI64 ez38_26).2 (by omega)
            exact hJ23 _ (by omega)
          · exact hJ23 _ (by omega)
 clear eJ6
 refine Ok.bv fun z10_27 ez10_27 => ?_
 refine Ok.it (fun c => ?_) (fun c => ?_)
 · try simp only [ez10_27, dT] at c
   exact hJ6 _ (by intro g; rw [ez10_27, dT] at g; exact .inl g)
 · try simp only [ez10_27, dF] at c
   refine Ok.bv fun z11_29 ez11_29 => ?_
   exact hJ6 _ (by intro g; rw [ez11_29, dT] at g; exact .inr g)
theorem value_ToBool_tot {x0 : V} (h : Rt x0) : Ok (value_ToBool x0) (Rt) := by
 unfold value_ToBool
 refine Ok.bv fun J6 eJ6 => ?_
 have hJ6 : ∀ s6 : Bool, (True) → Ok (J6 s6) (Rt) := by
  intro s6 hs6
  rw [eJ6]
  refine Ok.it (fun c => ?_) (fun c => ?_)
  · exact Ok.sm (by exact h)
  · refine Ok.bv fun z10_8 ez10_8 => ?_
    refine Ok.it (fun c => ?_) (fun c => ?_)
    · try simp only [ez10_8, dT] at c
      refine Ok.ob (value_Bool_tot) fun y11_10 ey11_10 hy11_10 => ?_
      exact Ok.sm (by first | exact hy11_10 | exact hy11_10.1 | first | trivial | assumption | omega | (simp only; omega))
    · try simp only [ez10_8, dF] at c
      refine Ok.bv fun z13_11 ez13_11 => ?_
      refine Ok.it (fun c => ?_) (fun c => ?_)
      · try simp only [ez13_11, dT] at c
        refine Ok.bv fun z16_13 ez16_13 => ?_
        refine Ok.ob (value_Bool_tot) fun y17_14 ey17_14 hy17_14 => ?_
        exact Ok.sm (by first | exact hy17_14 | exact hy17_14.1 | first | trivial | assumption | omega | (simp only; omega))
      · try simp only [ez13_11, dF] at c
        refine Ok.bv fun z20_16 ez20_16 => ?_
        refine Ok.bv fun z24_17 ez24_17 => ?_
        refine Ok.bv fun z25_18 ez25_18 => ?_
        refine Ok.it (fun c => ?_) (fun c => ?_)
        · try simp only [ez25_18, ez24_17, ez20_16, BL] at c
          refine Ok.bv fun z28_20 ez28_20 => ?_
          refine Ok.ob (value_Bool_tot) fun y29_21 ey29_21 hy29_21 => ?_
          exact Ok.sm (by first | exact hy29_21 | exact hy29_21.1 | first | trivial | assumption | omega | (simp only; omega))
        · try simp only [ez25_18, ez24_17, ez20_16, BL] at c
          refine Ok.ob (value_Fail_tot (by first | trivial | assumption | omega | (simp only; omega) | (simp only; assumption) | (simp; omega) | (simp; done))) fun y30_22 ey30_22 hy30_22 => ?_
          exact Ok.sm (by first | exact hy30_22 | exact hy30_22.1 | first | trivial | assumption | omega | (simp only; omega))
 clear eJ6
 refine Ok.bv fun z6_23 ez6_23 => ?_
 refine Ok.it (fun c => ?_) (fun c => ?_)
 · try simp only [ez6_23, dT] at c
   exact hJ6 _ (by first | trivial | assumption | omega | (simp only; omega) | (simp only; assumption) | (simp; omega) | (simp; done))
 · try simp only [ez6_23, dF] at c
   refine Ok.bv fun z7_25 ez7_25 => ?_
   exact hJ6 _ (by first | trivial | assumption | omega | (simp only; omega) | (simp only; assumption) | (simp; omega) | (simp; done))
theorem value_ToText_tot {x0 : V} (h : Rt x0) : Ok (value_ToText x0) (Rt) := by
 unfold value_ToText
 refine Ok.bv fun z5_4 ez5_4 => ?_
 refine Ok.it (fun c => ?_) (fun c => ?_)
 · try simp only [ez5_4, dT] at c
   exact Ok.sm (by exact h)
 · try simp only [ez5_4, dF] at c
   refine Ok.ob (value_Show_rt h c) fun y8_6 ey8_6 hy8_6 => ?_
   refine Ok.ob (value_Text_tot) fun y9_7 ey9_7 hy9_7 => ?_
   exact Ok.sm (by first | exact hy9_7 | exact hy9_7.1 | first | trivial | assumption | omega | (simp only; omega))
theorem texts_One_tot {x0 : List UInt8} {x1 : List UInt8} (hl : x1.length ≤ 64) : Ok (texts_One x0 x1) (Rt) := by
 unfold texts_One
 refine Ok.bv fun z7_4 ez7_4 => ?_
 refine Ok.it (fun c => ?_) (fun c => ?_)
 · try simp only [ez7_4, dT] at c
   refine Ok.ob (texts_runes_tot (by first | trivial | assumption | omega | (simp only; omega) | (simp only; assumption) | (simp; omega) | (simp; done))) fun y9_6 ey9_6 hy9_6 => ?_
   refine Ok.ob (num_Of_tot) fun y10_7 ey10_7 hy10_7 => ?_
   refine Ok.ob (value_Made_tot (fun _ => hy10_7)) fun y13_8 ey13_8 hy13_8 => ?_
   exact Ok.sm (by first | exact hy13_8 | exact hy13_8.1 | first | trivial | assumption | omega | (simp only; omega))
 · try simp only [ez7_4, dF] at c
   refine Ok.bv fun z15_9 ez15_9 => ?_
   refine Ok.it (fun c => ?_) (fun c => ?_)
   · try simp only [ez15_9, dT] at c
     refine Ok.ob (texts_turned_tot (by first | trivial | assumption | omega | (simp only; omega) | (simp only; assumption) | (simp; omega) | (simp; done))) fun y17_11 ey17_11 hy17_11 => ?_
     refine Ok.ob (value_Text_tot) fun y18_12 ey18_12 hy18_12 => ?_
     exact Ok.sm (by first | exact hy18_12 | exact hy18_12.1 | first | trivial | assumption | omega | (simp only; omega))
   · try simp only [ez15_9, dF] at c
     refine Ok.bv fun z20_13 ez20_13 => ?_
     refine Ok.it (fun c => ?_) (fun c => ?_)
     · try simp only [ez20_13, dT] at c
       refine Ok.ob (texts_turned_tot (by first | trivial | assumption | omega | (simp only; omega) | (simp only; assumption) | (simp; omega) | (simp; done))) fun y22_15 ey22_15 hy22_15 => ?_
       refine Ok.ob (value_Text_tot) fun y23_16 ey23_16 hy23_16 => ?_
       exact Ok.sm (by first | exact hy23_16 | exact hy23_16.1 | first | trivial | assumption | omega | (simp only; omega))
     · try simp only [ez20_13, dF] at c
       refine Ok.bv fun z25_17 ez25_17 => ?_
       refine Ok.it (fun c => ?_) (fun c => ?_)
       · try simp only [ez25_17, dT] at c
         refine Ok.ob (texts_trimmed_tot (by first | trivial | assumption | omega | (simp only; omega) | (simp only; assumption) | (simp; omega) | (simp; done))) fun y27_19 ey27_19 hy27_19 => ?_
         refine Ok.ob (value_Text_tot) fun y28_20 ey28_20 hy28_20 => ?_
         exact Ok.sm (by first | exact hy28_20 | exact hy28_20.1 | first | trivial | assumption | omega | (simp only; omega))
       · try simp only [ez25_17, dF] at c
         refine Ok.bv fun z30_21 ez30_21 => ?_
         refine Ok.it (fun c => ?_) (fun c => ?_)
         · try simp only [ez30_21, dT] at c
           refine Ok.ob (value_ToNum_rt (.inr (.inr (.inl ⟨rfl, rfl, hl⟩)))) fun y33_23 ey33_23 hy33_23 => ?_
           exact Ok.sm (by first | exact hy33_23 | exact hy33_23.1 | first | trivial | assumption | omega | (simp only; omega))
         · try simp only [ez30_21, dF] at c
           refine Ok.ob (value_Fail_tot (by first | trivial | assumption | omega | (simp only; omega) | (simp only; assumption) | (simp; omega) | (simp; done))) fun y34_24 ey34_24 hy34_24 => ?_
           exact Ok.sm (by first | exact hy34_24 | exact hy34_24.1 | first | trivial | assumption | omega | (simp only; omega))
theorem texts_Part_tot {x0 : List UInt8} {x1 : List UInt8} {x2 : List (Int)} (hl : x1.length ≤ 64) (h2 : x2.length ≤ 10) (hx : ∀ x ∈ x2, -9223372036854775807 ≤ x ∧ x ≤ 9223372036854775807) (hr : x0 = [82, 69, 80, 84] → x2.length = 1) : Ok (texts_Part x0 x1 x2) (Rt) := by
 unfold texts_Part
 refine Ok.bv fun z14_3 ez14_3 => ?_
 refine Ok.it (fun c => ?_) (fun c => ?_)
 · try simp only [ez14_3, dT] at c
   refine Ok.ob (value_Fail_tot (by first | trivial | assumption | omega | (simp only; omega) | (simp only; assumption) | (simp; omega) | (simp; done))) fun y15_5 ey15_5 hy15_5 => ?_
   exact Ok.sm (by first | exact hy15_5 | exact hy15_5.1 | first | trivial | assumption | omega | (simp only; omega))
 · try simp only [ez14_3, dF] at c
   refine Ok.bv fun z20_6 ez20_6 => ?_
   have rz20_6 := (wI64 ez20_6).1
   try replace ez20_6 := (wI64 ez20_6).2 (by omega)
   refine Ok.ckf (by first | omega | decide | (simp; omega) | (simp; done)) fun k1 => ?_
   refine Ok.bv fun z21_8 ez21_8 => ?_
   have hz21 := gelP hx ez21_8 (by omega)
   refine Ok.ob (texts_count_tot (by omega) hz21) fun y24_9 ey24_9 hy24_9 => ?_
   refine Ok.bv fun z28_11 ez28_11 => ?_
   refine Ok.it (fun c => ?_) (fun c => ?_)
   · try simp only [ez28_11, BL] at c
     refine Ok.ob (value_Fail_tot (by first | trivial | assumption | omega | (simp only; omega) | (simp only; assumption) | (simp; omega) | (simp; done))) fun y29_13 ey29_13 hy29_13 => ?_
     exact Ok.sm (by first | exact hy29_13 | exact hy29_13.1 | first | trivial | assumption | omega | (simp only; omega))
   · try simp only [ez28_11, BL] at c
     have hp := hy24_9.2 c
     refine Ok.bv fun z32_16 ez32_16 => ?_
     refine Ok.it (fun c => ?_) (fun c => ?_)
     · try simp only [ez32_16, dT] at c
       refine Ok.ckf (by first | omega | decide | (simp; omega) | (simp; done)) fun k2 => ?_
       refine Ok.bv fun z35_19 ez35_19 => ?_
       refine Ok.ob (value_Text_tot) fun y36_20 ey36_20 hy36_20 => ?_
       exact Ok.sm (by first | exact hy36_20 | exact hy36_20.1 | first | trivial | assumption | omega | (simp only; omega))
     · try simp only [ez32_16, dF] at c
       refine Ok.bv fun z38_21 ez38_21 => ?_
       refine Ok.it (fun c => ?_) (fun c => ?_)
       · try simp only [ez38_21, dT] at c
         refine Ok.bv fun z43_23 ez43_23 => ?_
         have rz43_23 := (wI64 ez43_23).1
         try replace ez43_23 := (wI64 ez43_23).2 (by omega)
         refine Ok.ckf (by first | omega | decide | (simp; omega) | (simp; done)) fun k3 => ?_
         refine Ok.bv fun z44_25 ez44_25 => ?_
         refine Ok.ob (value_Text_tot) fun y45_26 ey45_26 hy45_26 => ?_
         exact Ok.sm (by first | exact hy45_26 | exact hy45_26.1 | first | trivial | assumption | omega | (simp only; omega))
       · try simp only [ez38_21, dF] at c
         refine Ok.bv fun z47_27 ez47_27 => ?_
         refine Ok.it (fun c => ?_) (fun c => ?_)
         · try simp only [ez47_27, dT] at c
           refine Ok.ckf (by first | omega | decide | (simp; omega) | (simp; done)) fun k4 => ?_
           refine Ok.bv fun z49_30 ez49_30 => ?_
           refine Ok.bv fun z51_31 ez51_31 => ?_
           try have qz51_31 := tdiv_nat z49_30 1000000
           have rz51_31 := (wI64 ez51_31).1
           try replace ez51_31 := (wI64 ez51_31).2 (by omega)
           refine Ok.bv fun z53_33 ez53_33 => ?_
           refine Ok.it (fun c => ?_) (fun c => ?_)
           · try simp only [ez53_33, dT] at c
             refine Ok.ob (value_Fail_tot (by first | trivial | assumption | omega | (simp only; omega) | (simp only; assumption) | (simp; omega) | (simp; done))) fun y54_35 ey54_35 hy54_35 => ?_
             exact Ok.sm (by first | exact hy54_35 | exact hy54_35.1 | first | trivial | assumption | omega | (simp only; omega))
           · try simp only [ez53_33, dF] at c
             refine Ok.bv fun z56_36 ez56_36 => ?_
             have rz56_36 := (wI64 ez56_36).1
             try replace ez56_36 := (wI64 ez56_36).2 (by omega)
             refine Ok.bv fun z59_37 ez59_37 => ?_
             refine Ok.bv fun z64_38 ez64_38 => ?_
             have rz64_38 := (wI64 ez64_38).1
             try replace ez64_38 := (wI64 ez64_38).2 (by omega)
             refine Ok.bv fun z67_39 ez67_39 => ?_
             refine Ok.ckf (by first | omega | decide | (simp; omega) | (simp; done)) fun k5 => ?_
             refine Ok.bv fun z68_41 ez68_41 => ?_
             refine Ok.ob (value_Text_tot) fun y69_42 ey69_42 hy69_42 => ?_
             exact Ok.sm (by first | exact hy69_42 | exact hy69_42.1 | first | trivial | assumption | omega | (simp only; omega))
         · try simp only [ez47_27, dF] at c
           refine Ok.bv fun z71_43 ez71_43 => ?_
           refine Ok.it (fun c => ?_) (fun c => ?_)
           · try simp only [ez71_43, dT] at c
             refine Ok.ckf (by first | omega | decide | (simp; omega) | (simp; done)) fun k6 => ?_
             refine Ok.bv fun z73_46 ez73_46 => ?_
             have hr1 := hr c
             have hz0 : z20_6 = 0 := by omega
             rw [hz0] at ez21_8
             have hzz : z73_46 = z21_8 := by rw [ez73_46, ez21_8]
             rw [← hzz] at hp
             refine Ok.bv fun z75_47 ez75_47 => ?_
             try have qz75_47 := tdiv_nat z73_46 1000000
             have rz75_47 := (wI64 ez75_47).1
             try replace ez75_47 := (wI64 ez75_47).2 (by omega)
             refine Ok.bv fun z77_49 ez77_49 => ?_
             refine Ok.bv fun z80_50 ez80_50 => ?_
             refine Ok.bv fun z81_51 ez81_51 => ?_
             refine Ok.it (fun c => ?_) (fun c => ?_)
             · try simp only [ez81_51, ez80_50, ez77_49, BL] at c
               refine Ok.ob (value_Fail_tot (by first | trivial | assumption | omega | (simp only; omega) | (simp only; assumption) | (simp; omega) | (simp; done))) fun y82_53 ey82_53 hy82_53 => ?_
               exact Ok.sm (by first | exact hy82_53 | exact hy82_53.1 | first | trivial | assumption | omega | (simp only; omega))
             · try simp only [ez81_51, ez80_50, ez77_49, BL] at c
               refine Ok.bv fun z85_54 ez85_54 => ?_
               refine Ok.ckf (by refine ⟨by omega, by omega, ?_⟩; exact Nat.le_trans (Nat.mul_le_mul hl (show z85_54.toNat ≤ 64 by omega)) (by decide)) fun k7 => ?_
               refine Ok.bv fun z86_57 ez86_57 => ?_
               refine Ok.ob (value_Text_tot) fun y87_58 ey87_58 hy87_58 => ?_
               exact Ok.sm (by first | exact hy87_58 | exact hy87_58.1 | first | trivial | assumption | omega | (simp only; omega))
           · try simp only [ez71_43, dF] at c
             refine Ok.ob (value_Fail_tot (by first | trivial | assumption | omega | (simp only; omega) | (simp only; assumption) | (simp; omega) | (simp; done))) fun y88_59 ey88_59 hy88_59 => ?_
             exact Ok.sm (by first | exact hy88_59 | exact hy88_59.1 | first | trivial | assumption | omega | (simp only; omega))
theorem texts_More_tot {x0 : List UInt8} {x1 : List (List UInt8)} (h2 : x1.length ≤ 10) (hx : ∀ t ∈ x1, t.length ≤ 64) : Ok (texts_More x0 x1) (Rt) := by
 unfold texts_More
 refine Ok.bv fun z8_3 ez8_3 => ?_
 refine Ok.it (fun c => ?_) (fun c => ?_)
 · try simp only [ez8_3, dT] at c
   refine Ok.ckf (by have hj := join_le hx; omega) fun k1 => ?_
   refine Ok.bv fun z10_7 ez10_7 => ?_
   refine Ok.ob (value_Text_tot) fun y11_8 ey11_8 hy11_8 => ?_
   exact Ok.sm (by first | exact hy11_8 | exact hy11_8.1 | first | trivial | assumption | omega | (simp only; omega))
 · try simp only [ez8_3, dF] at c
   refine Ok.bv fun z14_9 ez14_9 => ?_
   refine Ok.bv fun z18_10 ez18_10 => ?_
   refine Ok.bv fun z19_11 ez19_11 => ?_
   refine Ok.it (fun c => ?_) (fun c => ?_)
   · try simp only [ez19_11, ez18_10, ez14_9, BL] at c
     refine Ok.ckf (by first | omega | decide | (simp; omega) | (simp; done)) fun k2 => ?_
     refine Ok.bv fun z21_14 ez21_14 => ?_
     refine Ok.ckf (by first | omega | decide | (simp; omega) | (simp; done)) fun k3 => ?_
     refine Ok.bv fun z24_16 ez24_16 => ?_
     refine Ok.bv fun z26_17 ez26_17 => ?_
     refine Ok.ob (value_Bool_tot) fun y27_18 ey27_18 hy27_18 => ?_
     exact Ok.sm (by first | exact hy27_18 | exact hy27_18.1 | first | trivial | assumption | omega | (simp only; omega))
   · try simp only [ez19_11, ez18_10, ez14_9, BL] at c
     refine Ok.bv fun z30_19 ez30_19 => ?_
     refine Ok.bv fun z34_20 ez34_20 => ?_
     refine Ok.bv fun z35_21 ez35_21 => ?_
     refine Ok.it (fun c => ?_) (fun c => ?_)
     · try simp only [ez35_21, ez34_20, ez30_19, BL] at c
       refine Ok.ckf (by first | omega | decide | (simp; omega) | (simp; done)) fun k4 => ?_
       refine Ok.bv fun z37_24 ez37_24 => ?_
       have hz37 := gelP hx ez37_24 (by omega)
       refine Ok.ckf (by first | omega | decide | (simp; omega) | (simp; done)) fun k5 => ?_
       refine Ok.bv fun z40_26 ez40_26 => ?_
       refine Ok.ckf (by first | omega | decide | (simp; omega) | (simp; done)) fun k6 => ?_
       refine Ok.bv fun z42_29 ez42_29 => ?_
       refine Ok.bv fun z44_31 ez44_31 => ?_
       refine Ok.it (fun c => ?_) (fun c => ?_)
       · try simp only [ez44_31, dT] at c
         refine Ok.ob (value_Fail_tot (by first | trivial | assumption | omega | (simp only; omega) | (simp only; assumption) | (simp; omega) | (simp; done))) fun y45_33 ey45_33 hy45_33 => ?_
         exact Ok.sm (by first | exact hy45_33 | exact hy45_33.1 | first | trivial | assumption | omega | (simp only; omega))
       · try simp only [ez44_31, dF] at c
         refine Ok.bv fun z47_34 ez47_34 => ?_
         have rz47_34 := (wI64 ez47_34).1
         try replace ez47_34 := (wI64 ez47_34).2 (by omega)
         refine Ok.ob (num_Of_tot) fun y48_35 ey48_35 hy48_35 => ?_
         refine Ok.ob (value_Made_tot (fun _ => hy48_35)) fun y51_36 ey51_36 hy51_36 => ?_
         exact Ok.sm (by first | exact hy51_36 | exact hy51_36.1 | first | trivial | assumption | omega | (simp only; omega))
     · try simp only [ez35_21, ez34_20, ez30_19, BL] at c
       refine Ok.bv fun z54_37 ez54_37 => ?_
       refine Ok.bv fun z58_38 ez58_38 => ?_
       refine Ok.bv fun z59_39 ez59_39 => ?_
       refine Ok.it (fun c => ?_) (fun c => ?_)
       · try simp only [ez59_39, ez58_38, ez54_37, BL] at c
         refine Ok.ckf (by first | omega | decide | (simp; omega) | (simp; done)) fun k7 => ?_
         refine Ok.bv fun z61_43 ez61_43 => ?_
         refine Ok.bv fun z63_44 ez63_44 => ?_
         refine Ok.it (fun c => ?_) (fun c => ?_)
         · try simp only [ez63_44, dT] at c
           refine Ok.ckf (by first | omega | decide | (simp; omega) | (simp; done)) fun k8 => ?_
           refine Ok.bv fun z65_47 ez65_47 => ?_
           refine Ok.ob (value_Text_tot) fun y67_48 ey67_48 hy67_48 => ?_
           exact Ok.sm (by first | exact hy67_48 | exact hy67_48.1 | first | trivial | assumption | omega | (simp only; omega))
         · try simp only [ez63_44, dF] at c
           have hne0 : 1 ≤ z61_43.length := List.length_pos_iff.2 c
           refine Ok.ckf (by first | omega | decide | (simp; omega) | (simp; done)) fun k9 => ?_
           refine Ok.bv fun z69_50 ez69_50 => ?_
           have hz69 := gelP hx ez69_50 (by omega)
           refine Ok.ckf (by first | omega | decide | (simp; omega) | (simp; done)) fun k10 => ?_
           refine Ok.bv fun z72_52 ez72_52 => ?_
           have h61 : z72_52 = z61_43 := by rw [ez72_52, ez61_43]
           refine Ok.ckf (by first | omega | decide | (simp; omega) | (simp; done)) fun k11 => ?_
           refine Ok.bv fun z75_54 ez75_54 => ?_
           have hz75 := gelP hx ez75_54 (by omega)
           refine Ok.ckf (by exact rep_le hz69 (by rw [h61]; exact hne0) hz75) fun k12 => ?_
           refine Ok.bv fun z77_57 ez77_57 => ?_
           refine Ok.ob (value_Text_tot) fun y78_58 ey78_58 hy78_58 => ?_
           exact Ok.sm (by first | exact hy78_58 | exact hy78_58.1 | first | trivial | assumption | omega | (simp only; omega))
       · try simp only [ez59_39, ez58_38, ez54_37, BL] at c
         refine Ok.ob (value_Fail_tot (by first | trivial | assumption | omega | (simp only; omega) | (simp only; assumption) | (simp; omega) | (simp; done))) fun y79_59 ey79_59 hy79_59 => ?_
         exact Ok.sm (by first | exact hy79_59 | exact hy79_59.1 | first | trivial | assumption | omega | (simp only; omega))
end Go.Sp
end
section
set_option maxRecDepth 100000
namespace Go.Sp
open Go.Stp Go.ValP
theorem maths_One_tot {x0 : List UInt8} {x1 : Int} (h : -9223372036854775807 ≤ x1 ∧ x1 ≤ 9223372036854775807) : Ok (maths_One x0 x1) (fun r => Rt r ∧ (r.k = 4 ∨ r.k = 1)) := by
 unfold maths_One
 refine Ok.bv fun J3 eJ3 => ?_
 have hJ3 : ∀ s3 : Int × Int × (List UInt8), (True) → Ok (J3 s3) (fun r => Rt r ∧ (r.k = 4 ∨ r.k = 1)) := by
  intro s3 hs3
  rw [eJ3]
  refine Ok.ob (value_Fail_tot (by first | trivial | assumption | omega | (simp only; omega) | (simp only; assumption) | (simp; omega) | (simp; done))) fun y67_4 ey67_4 hy67_4 => ?_
  exact Ok.sm (by first | exact hy67_4 | exact hy67_4.1 | first | trivial | assumption | omega | (simp only; omega))
 clear eJ3
 refine Ok.bv fun z10_6 ez10_6 => ?_
 refine Ok.it (fun c => ?_) (fun c => ?_)
 · try simp only [ez10_6, dT] at c
   refine Ok.bv fun z13_8 ez13_8 => ?_
   have rz13_8 := (wI64 ez13_8).1
   try replace ez13_8 := (wI64 ez13_8).2 (by omega)
   refine Ok.bv fun z14_9 ez14_9 => ?_
   refine Ok.ob (value_Num_tot (by omega)) fun y15_10 ey15_10 hy15_10 => ?_
   exact Ok.sm (by first | exact hy15_10 | exact hy15_10.1 | first | trivial | assumption | omega | (simp only; omega))
 · try simp only [ez10_6, dF] at c
   refine Ok.bv fun z17_11 ez17_11 => ?_
   refine Ok.it (fun c => ?_) (fun c => ?_)
   · try simp only [ez17_11, dT] at c
     refine Ok.bv fun z19_13 ez19_13 => ?_
     refine Ok.bv fun z20_14 ez20_14 => ?_
     refine Ok.ob (maths_back_tot) fun y21_15 ey21_15 hy21_15 => ?_
     exact Ok.sm (by first | exact hy21_15 | exact hy21_15.1 | first | trivial | assumption | omega | (simp only; omega))
   · try simp only [ez17_11, dF] at c
     refine Ok.bv fun z23_16 ez23_16 => ?_
     refine Ok.it (fun c => ?_) (fun c => ?_)
     · try simp only [ez23_16, dT] at c
       refine Ok.ob (num_Floor_tot) fun y25_18 ey25_18 hy25_18 => ?_
       refine Ok.ob (value_Made_tot hy25_18) fun y28_19 ey28_19 hy28_19 => ?_
       exact Ok.sm (by first | exact hy28_19 | exact hy28_19.1 | first | trivial | assumption | omega | (simp only; omega))
     · try simp only [ez23_16, dF] at c
       refine Ok.bv fun z30_20 ez30_20 => ?_
       refine Ok.it (fun c => ?_) (fun c => ?_)
       · try simp only [ez30_20, dT] at c
         refine Ok.bv fun z33_22 ez33_22 => ?_
         refine Ok.bv fun z34_23 ez34_23 => ?_
         have tq := tmod_bd x1 (c := 1000000) (by decide)
         rw [← ez33_22] at tq
         have rz34_23 := (wI64 ez34_23).1
         try replace ez34_23 := (wI64 ez34_23).2 (by omega)
         refine Ok.ob (value_Num_tot (by omega)) fun y35_24 ey35_24 hy35_24 => ?_
         exact Ok.sm (by first | exact hy35_24 | exact hy35_24.1 | first | trivial | assumption | omega | (simp only; omega))
       · try simp only [ez30_20, dF] at c
         refine Ok.bv fun J26 eJ26 => ?_
         have hJ26 : ∀ s26 : Bool, (True) → Ok (J26 s26) (fun r => Rt r ∧ (r.k = 4 ∨ r.k = 1)) := by
          intro s26 hs26
          rw [eJ26]
          refine Ok.it (fun c => ?_) (fun c => ?_)
          · refine Ok.bv fun z41_28 ez41_28 => ?_
            refine Ok.ob (maths_away_tot) fun y42_29 ey42_29 hy42_29 => ?_
            exact Ok.sm (by first | exact hy42_29 | exact hy42_29.1 | first | trivial | assumption | omega | (simp only; omega))
          · refine Ok.bv fun z44_30 ez44_30 => ?_
            refine Ok.it (fun c => ?_) (fun c => ?_)
            · try simp only [ez44_30, dT] at c
              refine Ok.ob (maths_whole_tot (by first | trivial | assumption | omega | (simp only; omega) | (simp only; assumption) | (simp; omega) | (simp; done))) fun y47_33 ey47_33 hy47_33 => ?_
              have hw1 : y47_33.length = 1 := hy47_33.1
              refine Ok.ckf (by first | omega | decide | (simp; omega) | (simp; done)) fun k1 => ?_
              refine Ok.bv fun z48_36 ez48_36 => ?_
              refine Ok.bv fun z51_38 ez51_38 => ?_
              refine Ok.bv fun z54_39 ez54_39 => ?_
              refine Ok.bv fun z55_40 ez55_40 => ?_
              refine Ok.it (fun c => ?_) (fun c => ?_)
              · try simp only [ez55_40, ez54_39, ez51_38, BL] at c
                refine Ok.ob (value_Fail_tot (by first | trivial | assumption | omega | (simp only; omega) | (simp only; assumption) | (simp; omega) | (simp; done))) fun y56_42 ey56_42 hy56_42 => ?_
                exact Ok.sm (by first | exact hy56_42 | exact hy56_42.1 | first | trivial | assumption | omega | (simp only; omega))
              · try simp only [ez55_40, ez54_39, ez51_38, BL] at c
                refine Ok.bv fun J44 eJ44 => ?_
                have hJ44 : ∀ s44 : Int, (True) → Ok (J44 s44) (fun r => Rt r ∧ (r.k = 4 ∨ r.k = 1)) := by
                 intro s44 hs44
                 rw [eJ44]
                 refine Ok.ob (maths_back_tot) fun y66_45 ey66_45 hy66_45 => ?_
                 exact Ok.sm (by first | exact hy66_45 | exact hy66_45.1 | first | trivial | assumption | omega | (simp only; omega))
                clear eJ44
                refine Ok.bv fun B47 eB47 => ?_
                subst eB47
                refine Ok.lp (fun s47 : Int × Int => 2 ≤ s47.2 ∧ s47.2 ≤ 21) (fun s47 => (21 - s47.2).toNat) (by first | trivial | omega | (simp only; omega) | (simp only; refine ⟨by omega, ?_⟩; first | assumption | omega) | (simp; omega) | (simp; done)) (by first | (simp only; omega) | (simp; omega) | (simp; done)) fun s47 hs47 nextn47 ihn47 => ?_
                refine Ok.bv fun z59_50 ez59_50 => ?_
                refine Ok.it (fun c => ?_) (fun c => ?_)
                · try simp only [ez59_50, dT] at c
                  refine Ok.bv fun z64_53 ez64_53 => ?_
                  have rz64_53 := (wI64 ez64_53).1
                  try replace ez64_53 := (wI64 ez64_53).2 (by omega)
                  refine Ok.bv fun z61_54 ez61_54 => ?_
                  have rz61_54 := (wI64 ez61_54).1
                  try replace ez61_54 := (wI64 ez61_54).2 (by omega)
                  exact ihn47 _ (by first | trivial | omega | (simp only; omega) | (simp only; refine ⟨by omega, ?_⟩; first | assumption | omega) | (simp; omega) | (simp; done)) (by first | (simp only; omega) | (simp; omega) | (simp; done))
                · try simp only [ez59_50, dF] at c
                  exact hJ44 _ (by first | trivial | assumption | omega | (simp only; omega) | (simp only; assumption) | (simp; omega) | (simp; done))
            · try simp only [ez44_30, dF] at c
              exact hJ3 _ (by first | trivial | assumption | omega | (simp only; omega) | (simp only; assumption) | (simp; omega) | (simp; done))
         clear eJ26
         refine Ok.bv fun z37_55 ez37_55 => ?_
         refine Ok.it (fun c => ?_) (fun c => ?_)
         · try simp only [ez37_55, dT] at c
           exact hJ26 _ (by first | trivial | assumption | omega | (simp only; omega) | (simp only; assumption) | (simp; omega) | (simp; done))
         · try simp only [ez37_55, dF] at c
           refine Ok.bv fun z38_57 ez38_57 => ?_
           exact hJ26 _ (by first | trivial | assumption | omega | (simp only; omega) | (simp only; assumption) | (simp; omega) | (simp; done))
theorem maths_Two_tot {x0 : List UInt8} {x1 : Int} {x2 : Int} (h1 : -9223372036854775807 ≤ x1 ∧ x1 ≤ 9223372036854775807) (h2 : -9223372036854775807 ≤ x2 ∧ x2 ≤ 9223372036854775807) : Ok (maths_Two x0 x1 x2) (fun r => Rt r ∧ (r.k = 4 ∨ r.k = 1)) := by
 unfold maths_Two
 refine Ok.ob (maths_whole_tot (by first | trivial | assumption | omega | (simp only; omega) | (simp only; assumption) | (simp; omega) | (simp; done))) fun y14_3 ey14_3 hy14_3 => ?_
 obtain ⟨hw1, hw2⟩ := hy14_3
 have hw1 : y14_3.length = 2 := hw1
 refine Ok.bv fun z17_7 ez17_7 => ?_
 refine Ok.it (fun c => ?_) (fun c => ?_)
 · try simp only [ez17_7, dT] at c
   refine Ok.ckf (by first | omega | decide | (simp; omega) | (simp; done)) fun k1 => ?_
   refine Ok.bv fun z19_11 ez19_11 => ?_
   refine Ok.bv fun z21_12 ez21_12 => ?_
   refine Ok.ckf (by first | (simp only [ez21_12, BL]; omega) | (simp [ez21_12]; omega) | (simp [ez21_12]; done) | first | omega | decide | (simp; omega) | (simp; done)) fun k2 => ?_
   refine Ok.bv fun z24_14 ez24_14 => ?_
   refine Ok.bv fun z26_15 ez26_15 => ?_
   refine Ok.bv fun z27_16 ez27_16 => ?_
   refine Ok.it (fun c => ?_) (fun c => ?_)
   · try simp only [ez27_16, ez26_15, ez21_12, BL] at c
     refine Ok.ob (value_Fail_tot (by first | trivial | assumption | omega | (simp only; omega) | (simp only; assumption) | (simp; omega) | (simp; done))) fun y28_18 ey28_18 hy28_18 => ?_
     exact Ok.sm (by first | exact hy28_18 | exact hy28_18.1 | first | trivial | assumption | omega | (simp only; omega))
   · try simp only [ez27_16, ez26_15, ez21_12, BL] at c
     refine Ok.ckf (by first | omega | decide | (simp; omega) | (simp; done)) fun k3 => ?_
     refine Ok.bv fun z31_20 ez31_20 => ?_
     have hz31 : z31_20 = z24_14 := by rw [ez31_20, ez24_14]
     have hz19 : z24_14 = z19_11 := by rw [ez24_14, ez19_11]
     refine Ok.ob (maths_round_tot h1 (by omega)) fun y33_21 ey33_21 hy33_21 => ?_
     exact Ok.sm (by first | exact hy33_21 | exact hy33_21.1 | first | trivial | assumption | omega | (simp only; omega))
 · try simp only [ez17_7, dF] at c
   refine Ok.bv fun z35_22 ez35_22 => ?_
   refine Ok.it (fun c => ?_) (fun c => ?_)
   · try simp only [ez35_22, dT] at c
     refine Ok.bv fun z37_25 ez37_25 => ?_
     refine Ok.it (fun c => ?_) (fun c => ?_)
     · try simp only [ez37_25, dT] at c
       refine Ok.ob (value_Fail_tot (by first | trivial | assumption | omega | (simp only; omega) | (simp only; assumption) | (simp; omega) | (simp; done))) fun y38_27 ey38_27 hy38_27 => ?_
       exact Ok.sm (by first | exact hy38_27 | exact hy38_27.1 | first | trivial | assumption | omega | (simp only; omega))
     · try simp only [ez37_25, dF] at c
       refine Ok.ckf (by first | omega | decide | (simp; omega) | (simp; done)) fun k4 => ?_
       refine Ok.bv fun z41_29 ez41_29 => ?_
       have tq : z41_29.natAbs < x2.natAbs ∧ (0 ≤ x1 → 0 ≤ z41_29) := by
        rw [ez41_29]
        exact ⟨tmod_nat x1 (by omega), fun h => Int.tmod_nonneg x2 h⟩
       refine Ok.bv fun J31 eJ31 => ?_
       have hJ31 : ∀ s31 : Int, (-9223372036854775807 ≤ s31 ∧ s31 ≤ 9223372036854775807) → Ok (J31 s31) (fun r => Rt r ∧ (r.k = 4 ∨ r.k = 1)) := by
        intro s31 hs31
        rw [eJ31]
        refine Ok.ob (value_Num_tot hs31) fun y55_32 ey55_32 hy55_32 => ?_
        exact Ok.sm (by first | exact hy55_32 | exact hy55_32.1 | first | trivial | assumption | omega | (simp only; omega))
       clear eJ31
       refine Ok.bv fun z43_33 ez43_33 => ?_
       refine Ok.bv fun z46_34 ez46_34 => ?_
       refine Ok.bv fun z48_35 ez48_35 => ?_
       refine Ok.bv fun z49_36 ez49_36 => ?_
       refine Ok.bv fun z50_37 ez50_37 => ?_
       refine Ok.it (fun c => ?_) (fun c => ?_)
       · try simp only [ez50_37, ez49_36, ez48_35, ez46_34, ez43_33, BL] at c
         refine Ok.bv fun z53_39 ez53_39 => ?_
         have hsg : (z41_29 < 0 ∧ 0 < x2) ∨ (0 < z41_29 ∧ x2 < 0) := by by_cases q1 : z41_29 < 0 <;> by_cases q2 : x2 < 0 <;> simp [q1, q2] at c <;> omega
         have rz53_39 := (wI64 ez53_39).1
         try replace ez53_39 := (wI64 ez53_39).2 (by omega)
         exact hJ31 _ (by first | trivial | assumption | omega | (simp only; omega) | (simp only; assumption) | (simp; omega) | (simp; done))
       · try simp only [ez50_37, ez49_36, ez48_35, ez46_34, ez43_33, BL] at c
         exact hJ31 _ (by first | trivial | assumption | omega | (simp only; omega) | (simp only; assumption) | (simp; omega) | (simp; done))
   · try simp only [ez35_22, dF] at c
     refine Ok.bv fun z57_40 ez57_40 => ?_
     refine Ok.it (fun c => ?_) (fun c => ?_)
     · try simp only [ez57_40, dT] at c
       refine Ok.bv fun z59_43 ez59_43 => ?_
       refine Ok.bv fun z60_44 ez60_44 => ?_
       refine Ok.ckf (by first | (simp only [ez60_44, BL]; omega) | (simp [ez60_44]; omega) | (simp [ez60_44]; done) | first | omega | decide | (simp; omega) | (simp; done)) fun k5 => ?_
       refine Ok.bv fun z63_46 ez63_46 => ?_
       refine Ok.bv fun z65_47 ez65_47 => ?_
       refine Ok.bv fun z66_48 ez66_48 => ?_
       refine Ok.ckf (by first | (simp only [ez66_48, ez65_47, ez60_44, BL]; omega) | (simp [ez66_48, ez65_47, ez60_44]; omega) | (simp [ez66_48, ez65_47, ez60_44]; done) | first | omega | decide | (simp; omega) | (simp; done)) fun k6 => ?_
       refine Ok.bv fun z69_50 ez69_50 => ?_
       refine Ok.bv fun z71_51 ez71_51 => ?_
       refine Ok.bv fun z72_52 ez72_52 => ?_
       refine Ok.it (fun c => ?_) (fun c => ?_)
       · try simp only [ez72_52, ez71_51, ez66_48, ez65_47, ez60_44, BL] at c
         refine Ok.ob (value_Fail_tot (by first | trivial | assumption | omega | (simp only; omega) | (simp only; assumption) | (simp; omega) | (simp; done))) fun y73_54 ey73_54 hy73_54 => ?_
         exact Ok.sm (by first | exact hy73_54 | exact hy73_54.1 | first | trivial | assumption | omega | (simp only; omega))
       · try simp only [ez72_52, ez71_51, ez66_48, ez65_47, ez60_44, BL] at c
         refine Ok.ckf (by first | omega | decide | (simp; omega) | (simp; done)) fun k7 => ?_
         refine Ok.bv fun z76_56 ez76_56 => ?_
         have hz76 : z76_56 = z69_50 := by rw [ez76_56, ez69_50]
         refine Ok.ob (maths_power_tot (by omega) (by omega)) fun y78_57 ey78_57 hy78_57 => ?_
         exact Ok.sm (by first | exact hy78_57 | exact hy78_57.1 | first | trivial | assumption | omega | (simp only; omega))
     · try simp only [ez57_40, dF] at c
       refine Ok.bv fun z80_58 ez80_58 => ?_
       refine Ok.it (fun c => ?_) (fun c => ?_)
       · try simp only [ez80_58, dT] at c
         refine Ok.bv fun z82_61 ez82_61 => ?_
         refine Ok.it (fun c => ?_) (fun c => ?_)
         · try simp only [ez82_61, dT] at c
           refine Ok.ob (value_Fail_tot (by first | trivial | assumption | omega | (simp only; omega) | (simp only; assumption) | (simp; omega) | (simp; done))) fun y83_63 ey83_63 hy83_63 => ?_
           exact Ok.sm (by first | exact hy83_63 | exact hy83_63.1 | first | trivial | assumption | omega | (simp only; omega))
         · try simp only [ez82_61, dF] at c
           refine Ok.ckf (by first | omega | decide | (simp; omega) | (simp; done)) fun k8 => ?_
           refine Ok.bv fun z86_65 ez86_65 => ?_
           try have qz86_65 := tdiv_nat x1 x2
           have rz86_65 := (wI64 ez86_65).1
           try replace ez86_65 := (wI64 ez86_65).2 (by omega)
           refine Ok.ob (maths_back_tot) fun y87_66 ey87_66 hy87_66 => ?_
           exact Ok.sm (by first | exact hy87_66 | exact hy87_66.1 | first | trivial | assumption | omega | (simp only; omega))
       · try simp only [ez80_58, dF] at c
         refine Ok.bv fun J68 eJ68 => ?_
         have hJ68 : ∀ s68 : Bool, (True) → Ok (J68 s68) (fun r => Rt r ∧ (r.k = 4 ∨ r.k = 1)) := by
          intro s68 hs68
          rw [eJ68]
          refine Ok.it (fun c => ?_) (fun c => ?_)
          · refine Ok.ckf (by first | omega | decide | (simp; omega) | (simp; done)) fun k9 => ?_
            refine Ok.bv fun z92_72 ez92_72 => ?_
            refine Ok.bv fun z94_73 ez94_73 => ?_
            refine Ok.ckf (by first | (simp only [ez94_73, BL]; omega) | (simp [ez94_73]; omega) | (simp [ez94_73]; done) | first | omega | decide | (simp; omega) | (simp; done)) fun k10 => ?_
            refine Ok.bv fun z97_75 ez97_75 => ?_
            refine Ok.bv fun z99_76 ez99_76 => ?_
            refine Ok.bv fun z100_77 ez100_77 => ?_
            refine Ok.it (fun c => ?_) (fun c => ?_)
            · try simp only [ez100_77, ez99_76, ez94_73, BL] at c
              refine Ok.ob (value_Fail_tot (by first | trivial | assumption | omega | (simp only; omega) | (simp only; assumption) | (simp; omega) | (simp; done))) fun y101_79 ey101_79 hy101_79 => ?_
              exact Ok.sm (by first | exact hy101_79 | exact hy101_79.1 | first | trivial | assumption | omega | (simp only; omega))
            · try simp only [ez100_77, ez99_76, ez94_73, BL] at c
              refine Ok.ckf (by first | omega | decide | (simp; omega) | (simp; done)) fun k11 => ?_
              refine Ok.bv fun z103_81 ez103_81 => ?_
              have g1 := gelP hw2 ez103_81 (by omega)
              refine Ok.ckf (by first | omega | decide | (simp; omega) | (simp; done)) fun k12 => ?_
              refine Ok.bv fun z106_83 ez106_83 => ?_
              have g2 := gelP hw2 ez106_83 (by omega)
              refine Ok.ob (maths_gcd_tot g2) fun y108_84 ey108_84 hy108_84 => ?_
              refine Ok.bv fun z110_86 ez110_86 => ?_
              refine Ok.bv fun z113_87 ez113_87 => ?_
              refine Ok.bv fun z114_88 ez114_88 => ?_
              refine Ok.it (fun c => ?_) (fun c => ?_)
              · try simp only [ez114_88, ez113_87, ez110_86, BL] at c
                refine Ok.ob (maths_back_tot) fun y116_90 ey116_90 hy116_90 => ?_
                exact Ok.sm (by first | exact hy116_90 | exact hy116_90.1 | first | trivial | assumption | omega | (simp only; omega))
              · try simp only [ez114_88, ez113_87, ez110_86, BL] at c
                refine Ok.ckf (by first | omega | decide | (simp; omega) | (simp; done)) fun k13 => ?_
                refine Ok.bv fun z118_92 ez118_92 => ?_
                refine Ok.ckf (by first | omega | decide | (simp; omega) | (simp; done)) fun k14 => ?_
                refine Ok.bv fun z121_94 ez121_94 => ?_
                try have qz121_94 := tdiv_nat z118_92 y108_84
                have rz121_94 := (wI64 ez121_94).1
                try replace ez121_94 := (wI64 ez121_94).2 (by omega)
                refine Ok.ckf (by first | omega | decide | (simp; omega) | (simp; done)) fun k15 => ?_
                refine Ok.bv fun z123_97 ez123_97 => ?_
                refine Ok.bv fun z125_98 ez125_98 => ?_
                refine Ok.ckf (by first | (simp only [ez125_98, BL]; omega) | (simp [ez125_98]; omega) | (simp [ez125_98]; done) | first | omega | decide | (simp; omega) | (simp; done)) fun k16 => ?_
                refine Ok.bv fun z129_100 ez129_100 => ?_
                refine Ok.ckf (by first | (simp only [ez125_98, BL]; omega) | (simp [ez125_98]; omega) | (simp [ez125_98]; done) | first | omega | decide | (simp; omega) | (simp; done)) fun k17 => ?_
                refine Ok.bv fun z131_102 ez131_102 => ?_
                try have qz131_102 := tdiv_nat 9223372036854 z129_100
                have rz131_102 := (wI64 ez131_102).1
                try replace ez131_102 := (wI64 ez131_102).2 (by omega)
                refine Ok.bv fun z132_103 ez132_103 => ?_
                refine Ok.bv fun z133_104 ez133_104 => ?_
                refine Ok.it (fun c => ?_) (fun c => ?_)
                · try simp only [ez133_104, ez132_103, ez125_98, BL] at c
                  refine Ok.ob (value_Fail_tot (by first | trivial | assumption | omega | (simp only; omega) | (simp only; assumption) | (simp; omega) | (simp; done))) fun y134_106 ey134_106 hy134_106 => ?_
                  exact Ok.sm (by first | exact hy134_106 | exact hy134_106.1 | first | trivial | assumption | omega | (simp only; omega))
                · try simp only [ez133_104, ez132_103, ez125_98, BL] at c
                  refine Ok.ckf (by first | omega | decide | (simp; omega) | (simp; done)) fun k18 => ?_
                  refine Ok.bv fun z137_108 ez137_108 => ?_
                  refine Ok.bv fun z139_109 ez139_109 => ?_
                  have rz139_109 := (wI64 ez139_109).1
                  try replace ez139_109 := (wI64 ez139_109).2 (by omega)
                  refine Ok.ob (maths_back_tot) fun y140_110 ey140_110 hy140_110 => ?_
                  exact Ok.sm (by first | exact hy140_110 | exact hy140_110.1 | first | trivial | assumption | omega | (simp only; omega))
          · refine Ok.ob (value_Fail_tot (by first | trivial | assumption | omega | (simp only; omega) | (simp only; assumption) | (simp; omega) | (simp; done))) fun y141_111 ey141_111 hy141_111 => ?_
            exact Ok.sm (by first | exact hy141_111 | exact hy141_111.1 | first | trivial | assumption | omega | (simp only; omega))
         clear eJ68
         refine Ok.bv fun z89_112 ez89_112 => ?_
         refine Ok.it (fun c => ?_) (fun c => ?_)
         · try simp only [ez89_112, dT] at c
           exact hJ68 _ (by first | trivial | assumption | omega | (simp only; omega) | (simp only; assumption) | (simp; omega) | (simp; done))
         · try simp only [ez89_112, dF] at c
           refine Ok.bv fun z90_114 ez90_114 => ?_
           exact hJ68 _ (by first | trivial | assumption | omega | (simp only; omega) | (simp only; assumption) | (simp; omega) | (simp; done))
theorem lists_SumProduct_tot {x0 : List (V)} {x1 : List (V)} (hl : x0.length ≤ 1000) (hx : ∀ x ∈ x0, Rt x) (hl1 : x1.length ≤ 1000) (hx1 : ∀ x ∈ x1, Rt x) : Ok (lists_SumProduct x0 x1) (Rt) := by
 unfold lists_SumProduct
 refine Ok.bv fun z12_3 ez12_3 => ?_
 refine Ok.it (fun c => ?_) (fun c => ?_)
 · try simp only [ez12_3, BL] at c
   refine Ok.ob (value_Fail_tot (by first | trivial | assumption | omega | (simp only; omega) | (simp only; assumption) | (simp; omega) | (simp; done))) fun y13_5 ey13_5 hy13_5 => ?_
   exact Ok.sm (by first | exact hy13_5 | exact hy13_5.1 | first | trivial | assumption | omega | (simp only; omega))
 · try simp only [ez12_3, BL] at c
   refine Ok.ob (value_Num_tot (by first | trivial | assumption | omega | (simp only; omega) | (simp only; assumption) | (simp; omega) | (simp; done))) fun y14_6 ey14_6 hy14_6 => ?_
   refine Ok.bv fun J9 eJ9 => ?_
   have hJ9 : ∀ s9 : Int × Int × (List UInt8) × Int × Int × (List UInt8), (Rt ⟨s9.2.2.2.1, s9.2.2.2.2.1, s9.2.2.2.2.2⟩) → Ok (J9 s9) (Rt) := by
    intro s9 hs9
    rw [eJ9]
    exact Ok.sm (by first | trivial | assumption | omega | (simp only; omega))
   clear eJ9
   refine Ok.bv fun B11 eB11 => ?_
   subst eB11
   refine Ok.lp (fun s11 : Int × Int × Int × (List UInt8) × Int × Int × (List UInt8) => (0 ≤ s11.1 ∧ s11.1 ≤ (x0.length : Int)) ∧ Rt ⟨s11.2.2.2.2.1, s11.2.2.2.2.2.1, s11.2.2.2.2.2.2⟩) (fun s11 => ((x0.length : Int) - s11.1).toNat) (by exact ⟨by simp only; omega, hy14_6.1⟩) (by first | (simp only; omega) | (simp; omega) | (simp; done)) fun s11 hs11 nextn11 ihn11 => ?_
   refine Ok.bv fun z18_13 ez18_13 => ?_
   refine Ok.it (fun c => ?_) (fun c => ?_)
   · try simp only [ez18_13, dT] at c
     refine Ok.ckf (by first | omega | decide | (simp; omega) | (simp; done)) fun k1 => ?_
     refine Ok.bv fun z22_19 ez22_19 => ?_
     refine Ok.bv fun z25_20 ez25_20 => ?_
     refine Ok.ckf (by first | (simp only [ez25_20, BL]; omega) | (simp [ez25_20]; omega) | (simp [ez25_20]; done) | first | omega | decide | (simp; omega) | (simp; done)) fun k2 => ?_
     refine Ok.bv fun z29_22 ez29_22 => ?_
     refine Ok.bv fun z32_23 ez32_23 => ?_
     refine Ok.bv fun z33_24 ez33_24 => ?_
     refine Ok.it (fun c => ?_) (fun c => ?_)
     · try simp only [ez33_24, ez32_23, ez25_20, BL] at c
       refine Ok.bv fun z65_26 ez65_26 => ?_
       have rz65_26 := (wI64 ez65_26).1
       try replace ez65_26 := (wI64 ez65_26).2 (by omega)
       exact ihn11 _ (by exact ⟨by simp only; omega, hs11.2⟩) (by first | (simp only; omega) | (simp; omega) | (simp; done))
     · try simp only [ez33_24, ez32_23, ez25_20, BL] at c
       refine Ok.ckf (by first | omega | decide | (simp; omega) | (simp; done)) fun k3 => ?_
       refine Ok.bv fun z37_28 ez37_28 => ?_
       have g1 := gelP hx ez37_28 (by omega)
       refine Ok.ckf (by first | omega | decide | (simp; omega) | (simp; done)) fun k4 => ?_
       refine Ok.bv fun z41_30 ez41_30 => ?_
       have g2 := gelP hx1 ez41_30 (by omega)
       refine Ok.ob (lists_Product_tot (by simp) (all2 g1 g2)) fun y44_31 ey44_31 hy44_31 => ?_
       refine Ok.ob (lists_Sum_tot (by simp) (all2 hs11.2 hy44_31.1)) fun y46_32 ey46_32 hy46_32 => ?_
       refine Ok.ckf (by first | omega | decide | (simp; omega) | (simp; done)) fun k5 => ?_
       refine Ok.bv fun z49_35 ez49_35 => ?_
       have g3 := gelP hx ez49_35 (by omega)
       refine Ok.ckf (by first | omega | decide | (simp; omega) | (simp; done)) fun k6 => ?_
       refine Ok.bv fun z53_37 ez53_37 => ?_
       have g4 := gelP hx1 ez53_37 (by omega)
       refine Ok.ob (lists_Product_tot (by simp) (all2 g3 g4)) fun y56_38 ey56_38 hy56_38 => ?_
       refine Ok.bv fun z59_40 ez59_40 => ?_
       refine Ok.it (fun c => ?_) (fun c => ?_)
       · try simp only [ez59_40, dT] at c
         exact Ok.sm (by first | exact hy56_38 | exact hy56_38.1 | first | trivial | assumption | omega | (simp only; omega))
       · try simp only [ez59_40, dF] at c
         refine Ok.bv fun z63_42 ez63_42 => ?_
         refine Ok.it (fun c => ?_) (fun c => ?_)
         · try simp only [ez63_42, dT] at c
           exact Ok.sm (by first | exact hy46_32 | exact hy46_32.1 | first | trivial | assumption | omega | (simp only; omega))
         · try simp only [ez63_42, dF] at c
           refine Ok.bv fun z65_44 ez65_44 => ?_
           have rz65_44 := (wI64 ez65_44).1
           try replace ez65_44 := (wI64 ez65_44).2 (by omega)
           exact ihn11 _ (by exact ⟨by simp only; omega, hy46_32.1⟩) (by first | (simp only; omega) | (simp; omega) | (simp; done))
   · try simp only [ez18_13, dF] at c
     exact hJ9 _ (by exact hs11.2)
end Go.Sp
end
section
set_option maxRecDepth 100000
namespace Go.Sp
open Go.Stp Go.ValP
def arT : List (List UInt8 × Nat × Nat) := [([73, 70], 2, 3),
 ([73, 70, 69, 82, 82, 79, 82], 2, 2),
 ([65, 78, 68], 1, 9),
 ([79, 82], 1, 9),
 ([67, 72, 79, 79, 83, 69], 2, 9),
 ([65, 66, 83], 1, 1),
 ([83, 73, 71, 78], 1, 1),
 ([73, 78, 84], 1, 1),
 ([82, 79, 85, 78, 68], 2, 2),
 ([77, 79, 68], 2, 2),
 ([80, 79, 87, 69, 82], 2, 2),
 ([81, 85, 79, 84, 73, 69, 78, 84], 2, 2),
 ([71, 67, 68], 2, 2),
 ([76, 67, 77], 2, 2),
 ([70, 65, 67, 84], 1, 1),
 ([69, 86, 69, 78], 1, 1),
 ([79, 68, 68], 1, 1),
 ([84, 82, 85, 78, 67], 1, 1),
 ([77, 73, 78], 1, 9),
 ([77, 65, 88], 1, 9),
 ([83, 85, 77], 1, 9),
 ([80, 82, 79, 68, 85, 67, 84], 1, 9),
 ([67, 79, 85, 78, 84], 1, 9),
 ([67, 79, 85, 78, 84, 65], 1, 9),
 ([67, 79, 85, 78, 84, 66, 76, 65, 78, 75], 1, 1),
 ([65, 86, 69, 82, 65, 71, 69], 1, 9),
 ([83, 85, 77, 73, 70], 2, 2),
 ([67, 79, 85, 78, 84, 73, 70], 2, 2),
 ([83, 85, 77, 80, 82, 79, 68, 85, 67, 84], 2, 2),
 ([76, 69, 78], 1, 1),
 ([76, 69, 70, 84], 2, 2),
 ([82, 73, 71, 72, 84], 2, 2),
 ([77, 73, 68], 3, 3),
 ([85, 80, 80, 69, 82], 1, 1),
 ([76, 79, 87, 69, 82], 1, 1),
 ([84, 82, 73, 77], 1, 1),
 ([67, 79, 78, 67, 65, 84], 1, 9),
 ([82, 69, 80, 84], 2, 2),
 ([70, 73, 78, 68], 2, 2),
 ([83, 85, 66, 83, 84, 73, 84, 85, 84, 69], 3, 3),
 ([69, 88, 65, 67, 84], 2, 2),
 ([86, 65, 76, 85, 69], 1, 1),
 ([78, 79, 84], 1, 1),
 ([73, 83, 78, 85, 77, 66, 69, 82], 1, 1),
 ([73, 83, 84, 69, 88, 84], 1, 1),
 ([73, 83, 66, 76, 65, 78, 75], 1, 1),
 ([73, 83, 69, 82, 82, 79, 82], 1, 1),
 ([73, 83, 76, 79, 71, 73, 67, 65, 76], 1, 1),
 ([78, 65], 0, 0),
 ([73, 78, 68, 69, 88], 3, 3),
 ([77, 65, 84, 67, 72], 2, 2),
 ([86, 76, 79, 79, 75, 85, 80], 3, 3),
 ([82, 79, 87, 83], 1, 1),
 ([67, 79, 76, 85, 77, 78, 83], 1, 1)]
def loN (nm : List UInt8) : Nat := ((arT.find? fun x => x.1 == nm).map fun x => x.2.1).getD 0
def hiN (nm : List UInt8) : Nat := ((arT.find? fun x => x.1 == nm).map fun x => x.2.2).getD 0
def treeOk (c n : Nat) : Bool := match tree_Name (c + 6 : Nat), tree_Fits (c + 6 : Nat) (n : Nat) with
 | some nm, some b => !b || (decide (loN nm ≤ n) && decide (n ≤ hiN nm) && (decide (nm = [78, 65]) || decide (1 ≤ n)))
 | _, _ => false
theorem treeOk_all : ((List.range 49).all fun c => (List.range 10).all fun n => treeOk c n) = true := by decide +kernel
theorem tree_tot {c : Int} {n : Nat} (h : 6 ≤ c ∧ c ≤ 54) (hn : n ≤ 9) : ∃ nm b, tree_Name c = some nm ∧ tree_Fits c (n : Int) = some b ∧ (b = true → loN nm ≤ n ∧ n ≤ hiN nm ∧ (nm = [78, 65] ∨ 1 ≤ n)) := by
 have h1 := List.all_eq_true.1 (List.all_eq_true.1 treeOk_all (c - 6).toNat (List.mem_range.2 (by omega))) n (List.mem_range.2 (by omega))
 unfold treeOk at h1
 rw [show (((c - 6).toNat + 6 : Nat) : Int) = c by omega] at h1
 split at h1
 · rename_i nm b e1 e2
   refine ⟨nm, b, e1, e2, fun hb => ?_⟩
   subst hb
   simp at h1
   exact ⟨h1.1.1, h1.1.2, h1.2⟩
 · cases h1
structure ArgOk (a : Arg) : Prop where
 len : a.l.length ≤ 100
 mem : ∀ x ∈ a.l, Rt x
 cols : a.cols = 1 ∨ a.cols = 2
theorem ArgOk.rt {a : Arg} (h : ArgOk a) : ∀ x ∈ a.l, Rt x := h.mem
theorem ArgOk.len1 {a : Arg} (h : ArgOk a) : a.l.length ≤ 1000 := by have := h.len; omega
theorem rt0 : Rt ⟨0, 0, []⟩ := .inl ⟨rfl, rfl, rfl⟩
theorem funcs_single_tot {x0 : Arg} (h : ArgOk x0) : Ok (funcs_single x0) (Rt) := by
 unfold funcs_single
 refine Ok.bv fun z6_4 ez6_4 => ?_
 refine Ok.it (fun c => ?_) (fun c => ?_)
 · try simp only [ez6_4, BL] at c
   refine Ok.ob (value_Fail_tot (by first | trivial | assumption | omega | (simp only; omega) | (simp only; assumption) | (simp; omega) | (simp; done))) fun y7_6 ey7_6 hy7_6 => ?_
   exact Ok.sm (by first | exact hy7_6 | exact hy7_6.1 | first | trivial | assumption | omega | (simp only; omega))
 · try simp only [ez6_4, BL] at c
   refine Ok.ckf (by first | omega | decide | (simp; omega) | (simp; done)) fun k1 => ?_
   refine Ok.bv fun z10_8 ez10_8 => ?_
   exact Ok.sm (by exact gelP h.rt ez10_8 (by omega))
theorem funcs_nums_tot {x0 : List (Arg)} (hl : x0.length ≤ 9) (hx : ∀ a ∈ x0, ArgOk a) : Ok (funcs_nums x0) (fun r => Rt r.2 ∧ (r.2.k ≠ 4 → r.1.length = x0.length ∧ ∀ x ∈ r.1, -9223372036854775807 ≤ x ∧ x ≤ 9223372036854775807)) := by
 unfold funcs_nums
 refine Ok.bv fun J3 eJ3 => ?_
 have hJ3 : ∀ s3 : Int × Int × (List UInt8) × (List (Int)), (s3.2.2.2.length = x0.length ∧ ∀ x ∈ s3.2.2.2, -9223372036854775807 ≤ x ∧ x ≤ 9223372036854775807) → Ok (J3 s3) (fun r => Rt r.2 ∧ (r.2.k ≠ 4 → r.1.length = x0.length ∧ ∀ x ∈ r.1, -9223372036854775807 ≤ x ∧ x ≤ 9223372036854775807)) := by
  intro s3 hs3
  rw [eJ3]
  exact Ok.sm (by exact ⟨rt0, fun _ => hs3⟩)
 clear eJ3
 refine Ok.bv fun B6 eB6 => ?_
 subst eB6
 refine Ok.lp (fun s6 : Int × Int × Int × (List UInt8) × (List (Int)) => (0 ≤ s6.1 ∧ s6.1 ≤ (x0.length : Int)) ∧ (s6.2.2.2.2.length : Int) = s6.1 ∧ ∀ x ∈ s6.2.2.2.2, -9223372036854775807 ≤ x ∧ x ≤ 9223372036854775807) (fun s6 => ((x0.length : Int) - s6.1).toNat) (by refine ⟨by simp only; omega, rfl, fun x hx => ?_⟩; cases hx) (by first | (simp only; omega) | (simp; omega) | (simp; done)) fun s6 hs6 nextn6 ihn6 => ?_
 refine Ok.bv fun z11_9 ez11_9 => ?_
 refine Ok.it (fun c => ?_) (fun c => ?_)
 · try simp only [ez11_9, dT] at c
   refine Ok.ckf (by first | omega | decide | (simp; omega) | (simp; done)) fun k1 => ?_
   refine Ok.bv fun z12_14 ez12_14 => ?_
   have gz12_14 := gelP hx ez12_14 (by omega)
   refine Ok.ob (funcs_single_tot gz12_14) fun y15_17 ey15_17 hy15_17 => ?_
   refine Ok.ob (value_ToNum_rt hy15_17) fun y16_18 ey16_18 hy16_18 => ?_
   have hn := hy16_18.1.n
   refine Ok.bv fun z19_21 ez19_21 => ?_
   refine Ok.it (fun c => ?_) (fun c => ?_)
   · try simp only [ez19_21, dT] at c
     exact Ok.sm (by exact ⟨hy16_18.1, fun g => absurd c g⟩)
   · try simp only [ez19_21, dF] at c
     refine Ok.ckf (by first | omega | decide | (simp; omega) | (simp; done)) fun k2 => ?_
     refine Ok.bv fun z25_26 ez25_26 => ?_
     refine Ok.bv fun z26_27 ez26_27 => ?_
     have rz26_27 := (wI64 ez26_27).1
     try replace ez26_27 := (wI64 ez26_27).2 (by omega)
     exact ihn6 _ (by refine ⟨by simp only; omega, by simp only [ez25_26, List.length_append, List.length_singleton]; omega, ?_⟩; simp only [ez25_26]; exact all_snoc hs6.2.2 hn) (by first | (simp only; omega) | (simp; omega) | (simp; done))
 · try simp only [ez11_9, dF] at c
   exact hJ3 _ (by exact ⟨by simp only; omega, hs6.2.2⟩)
theorem funcs_strs_tot {x0 : List (Arg)} (hl : x0.length ≤ 9) (hx : ∀ a ∈ x0, ArgOk a) : Ok (funcs_strs x0) (fun r => Rt r.2 ∧ (r.2.k ≠ 4 → r.1.length = x0.length ∧ ∀ t ∈ r.1, t.length ≤ 64)) := by
 unfold funcs_strs
 refine Ok.bv fun J3 eJ3 => ?_
 have hJ3 : ∀ s3 : Int × Int × (List UInt8) × (List (List UInt8)), (s3.2.2.2.length = x0.length ∧ ∀ t ∈ s3.2.2.2, t.length ≤ 64) → Ok (J3 s3) (fun r => Rt r.2 ∧ (r.2.k ≠ 4 → r.1.length = x0.length ∧ ∀ t ∈ r.1, t.length ≤ 64)) := by
  intro s3 hs3
  rw [eJ3]
  exact Ok.sm (by exact ⟨rt0, fun _ => hs3⟩)
 clear eJ3
 refine Ok.bv fun B6 eB6 => ?_
 subst eB6
 refine Ok.lp (fun s6 : Int × Int × Int × (List UInt8) × (List (List UInt8)) => (0 ≤ s6.1 ∧ s6.1 ≤ (x0.length : Int)) ∧ (s6.2.2.2.2.length : Int) = s6.1 ∧ ∀ t ∈ s6.2.2.2.2, t.length ≤ 64) (fun s6 => ((x0.length : Int) - s6.1).toNat) (by refine ⟨by simp only; omega, rfl, fun x hx => ?_⟩; cases hx) (by first | (simp only; omega) | (simp; omega) | (simp; done)) fun s6 hs6 nextn6 ihn6 => ?_
 refine Ok.bv fun z11_9 ez11_9 => ?_
 refine Ok.it (fun c => ?_) (fun c => ?_)
 · try simp only [ez11_9, dT] at c
   refine Ok.ckf (by first | omega | decide | (simp; omega) | (simp; done)) fun k1 => ?_
   refine Ok.bv fun z12_14 ez12_14 => ?_
   have gz12_14 := gelP hx ez12_14 (by omega)
   refine Ok.ob (funcs_single_tot gz12_14) fun y15_17 ey15_17 hy15_17 => ?_
   refine Ok.ob (value_ToText_tot hy15_17) fun y16_18 ey16_18 hy16_18 => ?_
   have hn := hy16_18.len
   refine Ok.bv fun z19_21 ez19_21 => ?_
   refine Ok.it (fun c => ?_) (fun c => ?_)
   · try simp only [ez19_21, dT] at c
     exact Ok.sm (by exact ⟨hy16_18, fun g => absurd c g⟩)
   · try simp only [ez19_21, dF] at c
     refine Ok.ckf (by first | omega | decide | (simp; omega) | (simp; done)) fun k2 => ?_
     refine Ok.bv fun z25_26 ez25_26 => ?_
     refine Ok.bv fun z26_27 ez26_27 => ?_
     have rz26_27 := (wI64 ez26_27).1
     try replace ez26_27 := (wI64 ez26_27).2 (by omega)
     exact ihn6 _ (by refine ⟨by simp only; omega, by simp only [ez25_26, List.length_append, List.length_singleton]; omega, ?_⟩; simp only [ez25_26]; exact all_snoc hs6.2.2 hn) (by first | (simp only; omega) | (simp; omega) | (simp; done))
 · try simp only [ez11_9, dF] at c
   exact hJ3 _ (by exact ⟨by simp only; omega, hs6.2.2⟩)
theorem funcs_all_tot {x0 : List (Arg)} (hl : x0.length ≤ 9) (hx : ∀ a ∈ x0, ArgOk a) : Ok (funcs_all x0) (fun r => r.length ≤ 1000 ∧ ∀ x ∈ r, Rt x) := by
 unfold funcs_all
 refine Ok.bv fun J2 eJ2 => ?_
 have hJ2 : ∀ s2 : (List (V)), (s2.length ≤ 1000 ∧ ∀ x ∈ s2, Rt x) → Ok (J2 s2) (fun r => r.length ≤ 1000 ∧ ∀ x ∈ r, Rt x) := by
  intro s2 hs2
  rw [eJ2]
  exact Ok.sm (by first | trivial | assumption | omega | (simp only; omega))
 clear eJ2
 refine Ok.bv fun B5 eB5 => ?_
 subst eB5
 refine Ok.lp (fun s5 : Int × (List (V)) => (0 ≤ s5.1 ∧ s5.1 ≤ (x0.length : Int)) ∧ (s5.2.length : Int) ≤ 100 * s5.1 ∧ ∀ x ∈ s5.2, Rt x) (fun s5 => ((x0.length : Int) - s5.1).toNat) (by refine ⟨by simp only; omega, by simp, fun x hx => ?_⟩; cases hx) (by first | (simp only; omega) | (simp; omega) | (simp; done)) fun s5 hs5 nextn5 ihn5 => ?_
 refine Ok.bv fun z9_8 ez9_8 => ?_
 refine Ok.it (fun c => ?_) (fun c => ?_)
 · try simp only [ez9_8, dT] at c
   refine Ok.ckf (by first | omega | decide | (simp; omega) | (simp; done)) fun k1 => ?_
   refine Ok.bv fun z10_13 ez10_13 => ?_
   have gz10_13 := gelP hx ez10_13 (by omega)
   have hzl := gz10_13.len
   refine Ok.ckf (by first | omega | decide | (simp; omega) | (simp; done)) fun k2 => ?_
   refine Ok.bv fun z15_18 ez15_18 => ?_
   refine Ok.bv fun z16_19 ez16_19 => ?_
   have rz16_19 := (wI64 ez16_19).1
   try replace ez16_19 := (wI64 ez16_19).2 (by omega)
   exact ihn5 _ (by refine ⟨by simp only; omega, by simp only [ez15_18, List.length_append]; omega, ?_⟩; simp only [ez15_18]; exact all_app hs5.2.2 gz10_13.rt) (by first | (simp only; omega) | (simp; omega) | (simp; done))
 · try simp only [ez9_8, dF] at c
   exact hJ2 _ (by exact ⟨by omega, hs5.2.2⟩)
theorem funcs_kind_tot {x0 : List UInt8} {x1 : V} (h : Rt x1) : Ok (funcs_kind x0 x1) (Rt) := by
 unfold funcs_kind
 refine Ok.bv fun z8_5 ez8_5 => ?_
 refine Ok.it (fun c => ?_) (fun c => ?_)
 · try simp only [ez8_5, dT] at c
   refine Ok.bv fun z11_7 ez11_7 => ?_
   refine Ok.ob (value_Bool_tot) fun y12_8 ey12_8 hy12_8 => ?_
   exact Ok.sm (by first | exact hy12_8 | exact hy12_8.1 | first | trivial | assumption | omega | (simp only; omega))
 · try simp only [ez8_5, dF] at c
   refine Ok.bv fun z14_9 ez14_9 => ?_
   refine Ok.it (fun c => ?_) (fun c => ?_)
   · try simp only [ez14_9, dT] at c
     refine Ok.bv fun z17_11 ez17_11 => ?_
     refine Ok.ob (value_Bool_tot) fun y18_12 ey18_12 hy18_12 => ?_
     exact Ok.sm (by first | exact hy18_12 | exact hy18_12.1 | first | trivial | assumption | omega | (simp only; omega))
   · try simp only [ez14_9, dF] at c
     refine Ok.bv fun z20_13 ez20_13 => ?_
     refine Ok.it (fun c => ?_) (fun c => ?_)
     · try simp only [ez20_13, dT] at c
       refine Ok.bv fun z23_15 ez23_15 => ?_
       refine Ok.ob (value_Bool_tot) fun y24_16 ey24_16 hy24_16 => ?_
       exact Ok.sm (by first | exact hy24_16 | exact hy24_16.1 | first | trivial | assumption | omega | (simp only; omega))
     · try simp only [ez20_13, dF] at c
       refine Ok.bv fun z26_17 ez26_17 => ?_
       refine Ok.it (fun c => ?_) (fun c => ?_)
       · try simp only [ez26_17, dT] at c
         refine Ok.bv fun z29_19 ez29_19 => ?_
         refine Ok.ob (value_Bool_tot) fun y30_20 ey30_20 hy30_20 => ?_
         exact Ok.sm (by first | exact hy30_20 | exact hy30_20.1 | first | trivial | assumption | omega | (simp only; omega))
       · try simp only [ez26_17, dF] at c
         refine Ok.bv fun z32_21 ez32_21 => ?_
         refine Ok.it (fun c => ?_) (fun c => ?_)
         · try simp only [ez32_21, dT] at c
           refine Ok.bv fun z35_23 ez35_23 => ?_
           refine Ok.ob (value_Bool_tot) fun y36_24 ey36_24 hy36_24 => ?_
           exact Ok.sm (by first | exact hy36_24 | exact hy36_24.1 | first | trivial | assumption | omega | (simp only; omega))
         · try simp only [ez32_21, dF] at c
           refine Ok.bv fun z38_25 ez38_25 => ?_
           refine Ok.it (fun c => ?_) (fun c => ?_)
           · try simp only [ez38_25, dT] at c
             refine Ok.ob (value_ToBool_tot h) fun y40_27 ey40_27 hy40_27 => ?_
             refine Ok.bv fun z43_30 ez43_30 => ?_
             refine Ok.it (fun c => ?_) (fun c => ?_)
             · try simp only [ez43_30, dT] at c
               exact Ok.sm (by first | exact hy40_27 | exact hy40_27.1 | first | trivial | assumption | omega | (simp only; omega))
             · try simp only [ez43_30, dF] at c
               refine Ok.bv fun z47_32 ez47_32 => ?_
               refine Ok.ob (value_Bool_tot) fun y48_33 ey48_33 hy48_33 => ?_
               exact Ok.sm (by first | exact hy48_33 | exact hy48_33.1 | first | trivial | assumption | omega | (simp only; omega))
           · try simp only [ez38_25, dF] at c
             refine Ok.ob (value_Fail_tot (by first | trivial | assumption | omega | (simp only; omega) | (simp only; assumption) | (simp; omega) | (simp; done))) fun y49_34 ey49_34 hy49_34 => ?_
             exact Ok.sm (by first | exact hy49_34 | exact hy49_34.1 | first | trivial | assumption | omega | (simp only; omega))
theorem funcs_list_tot {x0 : List UInt8} {x1 : List (Arg)} (hl : x1.length ≤ 9) (hx : ∀ a ∈ x1, ArgOk a) (hN : loN x0 ≤ x1.length) (hK : x0 = [78, 65] ∨ 1 ≤ x1.length) : Ok (funcs_list x0 x1) (Rt) := by
 unfold funcs_list
 refine Ok.bv fun J5 eJ5 => ?_
 have hJ5 : ∀ s5 : Bool, (True) → Ok (J5 s5) (Rt) := by
  intro s5 hs5
  rw [eJ5]
  refine Ok.it (fun c => ?_) (fun c => ?_)
  · refine Ok.bv fun z14_7 ez14_7 => ?_
    refine Ok.ob (funcs_all_tot (by first | trivial | assumption | omega | (simp only; omega) | (simp only; assumption) | (simp; omega) | (simp; done)) (by first | trivial | assumption | omega | (simp only; omega) | (simp only; assumption) | (simp; omega) | (simp; done))) fun y16_8 ey16_8 hy16_8 => ?_
    refine Ok.ob (lists_Extreme_tot hy16_8.1 hy16_8.2) fun y17_10 ey17_10 hy17_10 => ?_
    exact Ok.sm (by first | exact hy17_10 | exact hy17_10.1 | first | trivial | assumption | omega | (simp only; omega))
  · refine Ok.bv fun z19_11 ez19_11 => ?_
    refine Ok.it (fun c => ?_) (fun c => ?_)
    · try simp only [ez19_11, dT] at c
      refine Ok.ob (funcs_all_tot (by first | trivial | assumption | omega | (simp only; omega) | (simp only; assumption) | (simp; omega) | (simp; done)) (by first | trivial | assumption | omega | (simp only; omega) | (simp only; assumption) | (simp; omega) | (simp; done))) fun y21_13 ey21_13 hy21_13 => ?_
      refine Ok.ob (lists_Sum_tot hy21_13.1 hy21_13.2) fun y22_15 ey22_15 hy22_15 => ?_
      exact Ok.sm (by first | exact hy22_15 | exact hy22_15.1 | first | trivial | assumption | omega | (simp only; omega))
    · try simp only [ez19_11, dF] at c
      refine Ok.bv fun z24_16 ez24_16 => ?_
      refine Ok.it (fun c => ?_) (fun c => ?_)
      · try simp only [ez24_16, dT] at c
        refine Ok.ob (funcs_all_tot (by first | trivial | assumption | omega | (simp only; omega) | (simp only; assumption) | (simp; omega) | (simp; done)) (by first | trivial | assumption | omega | (simp only; omega) | (simp only; assumption) | (simp; omega) | (simp; done))) fun y26_18 ey26_18 hy26_18 => ?_
        refine Ok.ob (lists_Product_tot hy26_18.1 hy26_18.2) fun y27_20 ey27_20 hy27_20 => ?_
        exact Ok.sm (by first | exact hy27_20 | exact hy27_20.1 | first | trivial | assumption | omega | (simp only; omega))
      · try simp only [ez24_16, dF] at c
        refine Ok.bv fun z29_21 ez29_21 => ?_
        refine Ok.it (fun c => ?_) (fun c => ?_)
        · try simp only [ez29_21, dT] at c
          refine Ok.ob (funcs_all_tot (by first | trivial | assumption | omega | (simp only; omega) | (simp only; assumption) | (simp; omega) | (simp; done)) (by first | trivial | assumption | omega | (simp only; omega) | (simp only; assumption) | (simp; omega) | (simp; done))) fun y31_23 ey31_23 hy31_23 => ?_
          refine Ok.ob (lists_Count_tot hy31_23.1) fun y32_25 ey32_25 hy32_25 => ?_
          exact Ok.sm (by first | exact hy32_25 | exact hy32_25.1 | first | trivial | assumption | omega | (simp only; omega))
        · try simp only [ez29_21, dF] at c
          refine Ok.bv fun z34_26 ez34_26 => ?_
          refine Ok.it (fun c => ?_) (fun c => ?_)
          · try simp only [ez34_26, dT] at c
            refine Ok.ob (funcs_all_tot (by first | trivial | assumption | omega | (simp only; omega) | (simp only; assumption) | (simp; omega) | (simp; done)) (by first | trivial | assumption | omega | (simp only; omega) | (simp only; assumption) | (simp; omega) | (simp; done))) fun y36_28 ey36_28 hy36_28 => ?_
            refine Ok.ob (lists_Count_tot hy36_28.1) fun y37_30 ey37_30 hy37_30 => ?_
            exact Ok.sm (by first | exact hy37_30 | exact hy37_30.1 | first | trivial | assumption | omega | (simp only; omega))
          · try simp only [ez34_26, dF] at c
            refine Ok.bv fun z39_31 ez39_31 => ?_
            refine Ok.it (fun c => ?_) (fun c => ?_)
            · try simp only [ez39_31, dT] at c
              refine Ok.ob (funcs_all_tot (by first | trivial | assumption | omega | (simp only; omega) | (simp only; assumption) | (simp; omega) | (simp; done)) (by first | trivial | assumption | omega | (simp only; omega) | (simp only; assumption) | (simp; omega) | (simp; done))) fun y41_33 ey41_33 hy41_33 => ?_
              refine Ok.ob (lists_Count_tot hy41_33.1) fun y42_35 ey42_35 hy42_35 => ?_
              exact Ok.sm (by first | exact hy42_35 | exact hy42_35.1 | first | trivial | assumption | omega | (simp only; omega))
            · try simp only [ez39_31, dF] at c
              refine Ok.bv fun z44_36 ez44_36 => ?_
              refine Ok.it (fun c => ?_) (fun c => ?_)
              · try simp only [ez44_36, dT] at c
                refine Ok.ob (funcs_all_tot (by first | trivial | assumption | omega | (simp only; omega) | (simp only; assumption) | (simp; omega) | (simp; done)) (by first | trivial | assumption | omega | (simp only; omega) | (simp only; assumption) | (simp; omega) | (simp; done))) fun y46_38 ey46_38 hy46_38 => ?_
                refine Ok.ob (lists_Average_tot hy46_38.1 hy46_38.2) fun y47_40 ey47_40 hy47_40 => ?_
                exact Ok.sm (by first | exact hy47_40 | exact hy47_40.1 | first | trivial | assumption | omega | (simp only; omega))
              · try simp only [ez44_36, dF] at c
                refine Ok.bv fun z49_41 ez49_41 => ?_
                refine Ok.it (fun c => ?_) (fun c => ?_)
                · try simp only [ez49_41, dT] at c
                  have h2 : 2 ≤ x1.length := by rw [c] at hN; exact Nat.le_trans (by decide) hN
                  refine Ok.ckf (by first | omega | decide | (simp; omega) | (simp; done)) fun k1 => ?_
                  refine Ok.bv fun z51_44 ez51_44 => ?_
                  have gz51_44 := gelP hx ez51_44 (by omega)
                  refine Ok.ob (funcs_single_tot gz51_44) fun y53_46 ey53_46 hy53_46 => ?_
                  refine Ok.ckf (by first | omega | decide | (simp; omega) | (simp; done)) fun k2 => ?_
                  refine Ok.bv fun z55_48 ez55_48 => ?_
                  have gz55_48 := gelP hx ez55_48 (by omega)
                  refine Ok.ob (lists_CountIf_tot gz55_48.len1) fun y58_50 ey58_50 hy58_50 => ?_
                  exact Ok.sm (by first | exact hy58_50 | exact hy58_50.1 | first | trivial | assumption | omega | (simp only; omega))
                · try simp only [ez49_41, dF] at c
                  refine Ok.bv fun z60_51 ez60_51 => ?_
                  refine Ok.it (fun c => ?_) (fun c => ?_)
                  · try simp only [ez60_51, dT] at c
                    have h2 : 2 ≤ x1.length := by rw [c] at hN; exact Nat.le_trans (by decide) hN
                    refine Ok.ckf (by first | omega | decide | (simp; omega) | (simp; done)) fun k3 => ?_
                    refine Ok.bv fun z62_54 ez62_54 => ?_
                    have gz62_54 := gelP hx ez62_54 (by omega)
                    refine Ok.ob (funcs_single_tot gz62_54) fun y64_56 ey64_56 hy64_56 => ?_
                    refine Ok.ckf (by first | omega | decide | (simp; omega) | (simp; done)) fun k4 => ?_
                    refine Ok.bv fun z66_58 ez66_58 => ?_
                    have gz66_58 := gelP hx ez66_58 (by omega)
                    refine Ok.ob (lists_SumIf_tot gz66_58.len1 gz66_58.rt) fun y69_60 ey69_60 hy69_60 => ?_
                    exact Ok.sm (by first | exact hy69_60 | exact hy69_60.1 | first | trivial | assumption | omega | (simp only; omega))
                  · try simp only [ez60_51, dF] at c
                    refine Ok.bv fun z71_61 ez71_61 => ?_
                    refine Ok.it (fun c => ?_) (fun c => ?_)
                    · try simp only [ez71_61, dT] at c
                      have h2 : 2 ≤ x1.length := by rw [c] at hN; exact Nat.le_trans (by decide) hN
                      refine Ok.ckf (by first | omega | decide | (simp; omega) | (simp; done)) fun k5 => ?_
                      refine Ok.bv fun z73_64 ez73_64 => ?_
                      have gz73_64 := gelP hx ez73_64 (by omega)
                      refine Ok.ckf (by first | omega | decide | (simp; omega) | (simp; done)) fun k6 => ?_
                      refine Ok.bv fun z77_67 ez77_67 => ?_
                      have gz77_67 := gelP hx ez77_67 (by omega)
                      refine Ok.ob (lists_SumProduct_tot gz73_64.len1 gz73_64.rt gz77_67.len1 gz77_67.rt) fun y80_69 ey80_69 hy80_69 => ?_
                      exact Ok.sm (by first | exact hy80_69 | exact hy80_69.1 | first | trivial | assumption | omega | (simp only; omega))
                    · try simp only [ez71_61, dF] at c
                      refine Ok.bv fun z82_70 ez82_70 => ?_
                      refine Ok.it (fun c => ?_) (fun c => ?_)
                      · try simp only [ez82_70, dT] at c
                        have h2 : 2 ≤ x1.length := by rw [c] at hN; exact Nat.le_trans (by decide) hN
                        refine Ok.ckf (by first | omega | decide | (simp; omega) | (simp; done)) fun k7 => ?_
                        refine Ok.bv fun z84_73 ez84_73 => ?_
                        have gz84_73 := gelP hx ez84_73 (by omega)
                        refine Ok.ob (funcs_single_tot gz84_73) fun y86_75 ey86_75 hy86_75 => ?_
                        refine Ok.ckf (by first | omega | decide | (simp; omega) | (simp; done)) fun k8 => ?_
                        refine Ok.bv fun z88_77 ez88_77 => ?_
                        have gz88_77 := gelP hx ez88_77 (by omega)
                        refine Ok.ob (lists_Match_tot gz88_77.len1) fun y91_79 ey91_79 hy91_79 => ?_
                        exact Ok.sm (by first | exact hy91_79 | exact hy91_79.1 | first | trivial | assumption | omega | (simp only; omega))
                      · try simp only [ez82_70, dF] at c
                        refine Ok.bv fun z93_80 ez93_80 => ?_
                        refine Ok.it (fun c => ?_) (fun c => ?_)
                        · try simp only [ez93_80, dT] at c
                          have h1 : 1 ≤ x1.length := by rw [c] at hN; exact Nat.le_trans (by decide) hN
                          refine Ok.ckf (by first | omega | decide | (simp; omega) | (simp; done)) fun k9 => ?_
                          refine Ok.bv fun z95_83 ez95_83 => ?_
                          have gz95_83 := gelP hx ez95_83 (by omega)
                          refine Ok.ckf (by first | omega | decide | (simp; omega) | (simp; done)) fun k10 => ?_
                          refine Ok.bv fun z100_86 ez100_86 => ?_
                          have gz100_86 := gelP hx ez100_86 (by omega)
                          refine Ok.bv fun z103_88 ez103_88 => ?_
                          skip
                          refine Ok.ckf (by first | omega | decide | (simp; omega) | (simp; done)) fun k11 => ?_
                          refine Ok.bv fun z104_90 ez104_90 => ?_
                          try have qz104_90 := tdiv_nat (z95_83.l.length : Int) z103_88
                          have rz104_90 := (wI64 ez104_90).1
                          try replace ez104_90 := (wI64 ez104_90).2 (by omega)
                          refine Ok.ob (num_Of_tot) fun y105_91 ey105_91 hy105_91 => ?_
                          refine Ok.ob (value_Made_tot (fun _ => hy105_91)) fun y108_92 ey108_92 hy108_92 => ?_
                          exact Ok.sm (by first | exact hy108_92 | exact hy108_92.1 | first | trivial | assumption | omega | (simp only; omega))
                        · try simp only [ez93_80, dF] at c
                          refine Ok.bv fun z110_93 ez110_93 => ?_
                          refine Ok.it (fun c => ?_) (fun c => ?_)
                          · try simp only [ez110_93, dT] at c
                            have h1 : 1 ≤ x1.length := by rw [c] at hN; exact Nat.le_trans (by decide) hN
                            refine Ok.ckf (by first | omega | decide | (simp; omega) | (simp; done)) fun k12 => ?_
                            refine Ok.bv fun z112_96 ez112_96 => ?_
                            have gz112_96 := gelP hx ez112_96 (by omega)
                            refine Ok.ob (num_Of_tot) fun y115_98 ey115_98 hy115_98 => ?_
                            refine Ok.ob (value_Made_tot (fun _ => hy115_98)) fun y118_99 ey118_99 hy118_99 => ?_
                            exact Ok.sm (by first | exact hy118_99 | exact hy118_99.1 | first | trivial | assumption | omega | (simp only; omega))
                          · try simp only [ez110_93, dF] at c
                            refine Ok.bv fun z120_100 ez120_100 => ?_
                            refine Ok.it (fun c => ?_) (fun c => ?_)
                            · try simp only [ez120_100, dT] at c
                              refine Ok.ob (value_Fail_tot (by first | trivial | assumption | omega | (simp only; omega) | (simp only; assumption) | (simp; omega) | (simp; done))) fun y121_102 ey121_102 hy121_102 => ?_
                              exact Ok.sm (by first | exact hy121_102 | exact hy121_102.1 | first | trivial | assumption | omega | (simp only; omega))
                            · try simp only [ez120_100, dF] at c
                              have h1 : 1 ≤ x1.length := hK.resolve_left c
                              refine Ok.bv fun z123_103 ez123_103 => ?_
                              refine Ok.it (fun c => ?_) (fun c => ?_)
                              · try simp only [ez123_103, dT] at c
                                have h3 : 3 ≤ x1.length := by rw [c] at hN; exact Nat.le_trans (by decide) hN
                                refine Ok.ckf (by first | omega | decide | (simp; omega) | (simp; done)) fun k13 => ?_
                                refine Ok.bv fun z126_106 ez126_106 => ?_
                                have lz126_106 := cutL_len x1 (1 : Int) (x1.length : Int) (by omega)
                                rw [← ez126_106] at lz126_106
                                have az126_106 := all_cut hx (1 : Int) (x1.length : Int)
                                rw [← ez126_106] at az126_106
                                refine Ok.ob (funcs_nums_tot (by omega) az126_106) fun y127_108 ey127_108 hy127_108 => ?_
                                refine Ok.bv fun z132_112 ez132_112 => ?_
                                refine Ok.it (fun c => ?_) (fun c => ?_)
                                · try simp only [ez132_112, dT] at c
                                  exact Ok.sm (by first | exact hy127_108.1 | exact hy127_108.2 | first | trivial | assumption | omega | (simp only; omega))
                                · try simp only [ez132_112, dF] at c
                                  have hq := hy127_108.2 c
                                  refine Ok.ckf (by first | omega | decide | (simp; omega) | (simp; done)) fun k14 => ?_
                                  refine Ok.bv fun z135_115 ez135_115 => ?_
                                  have gz135_115 := gelP hx ez135_115 (by omega)
                                  refine Ok.ckf (by first | omega | decide | (simp; omega) | (simp; done)) fun k15 => ?_
                                  refine Ok.bv fun z139_118 ez139_118 => ?_
                                  refine Ok.bv fun z141_119 ez141_119 => ?_
                                  try have qz141_119 := tdiv_nat z139_118 1000000
                                  have rz141_119 := (wI64 ez141_119).1
                                  try replace ez141_119 := (wI64 ez141_119).2 (by omega)
                                  refine Ok.ckf (by first | omega | decide | (simp; omega) | (simp; done)) fun k16 => ?_
                                  refine Ok.bv fun z143_121 ez143_121 => ?_
                                  refine Ok.bv fun z145_122 ez145_122 => ?_
                                  try have qz145_122 := tdiv_nat z143_121 1000000
                                  have rz145_122 := (wI64 ez145_122).1
                                  try replace ez145_122 := (wI64 ez145_122).2 (by omega)
                                  refine Ok.ckf (by first | omega | decide | (simp; omega) | (simp; done)) fun k17 => ?_
                                  refine Ok.bv fun z147_124 ez147_124 => ?_
                                  have gz147_124 := gelP hx ez147_124 (by omega)
                                  refine Ok.ob (lists_Index_tot gz147_124.len1 gz147_124.rt gz135_115.cols (by omega) (by omega)) fun y150_126 ey150_126 hy150_126 => ?_
                                  exact Ok.sm (by first | exact hy150_126 | exact hy150_126.1 | first | trivial | assumption | omega | (simp only; omega))
                              · try simp only [ez123_103, dF] at c
                                refine Ok.bv fun z152_127 ez152_127 => ?_
                                refine Ok.it (fun c => ?_) (fun c => ?_)
                                · try simp only [ez152_127, dT] at c
                                  have h3 : 3 ≤ x1.length := by rw [c] at hN; exact Nat.le_trans (by decide) hN
                                  refine Ok.ckf (by first | omega | decide | (simp; omega) | (simp; done)) fun k18 => ?_
                                  refine Ok.bv fun z155_130 ez155_130 => ?_
                                  have lz155_130 := cutL_len x1 (2 : Int) (x1.length : Int) (by omega)
                                  rw [← ez155_130] at lz155_130
                                  have az155_130 := all_cut hx (2 : Int) (x1.length : Int)
                                  rw [← ez155_130] at az155_130
                                  refine Ok.ob (funcs_nums_tot (by omega) az155_130) fun y156_132 ey156_132 hy156_132 => ?_
                                  refine Ok.bv fun z161_136 ez161_136 => ?_
                                  refine Ok.it (fun c => ?_) (fun c => ?_)
                                  · try simp only [ez161_136, dT] at c
                                    exact Ok.sm (by first | exact hy156_132.1 | exact hy156_132.2 | first | trivial | assumption | omega | (simp only; omega))
                                  · try simp only [ez161_136, dF] at c
                                    have hq := hy156_132.2 c
                                    refine Ok.ckf (by first | omega | decide | (simp; omega) | (simp; done)) fun k19 => ?_
                                    refine Ok.bv fun z164_139 ez164_139 => ?_
                                    have gz164_139 := gelP hx ez164_139 (by omega)
                                    refine Ok.ob (funcs_single_tot gz164_139) fun y166_141 ey166_141 hy166_141 => ?_
                                    refine Ok.ckf (by first | omega | decide | (simp; omega) | (simp; done)) fun k20 => ?_
                                    refine Ok.bv fun z168_143 ez168_143 => ?_
                                    have gz168_143 := gelP hx ez168_143 (by omega)
                                    refine Ok.ckf (by first | omega | decide | (simp; omega) | (simp; done)) fun k21 => ?_
                                    refine Ok.bv fun z172_146 ez172_146 => ?_
                                    refine Ok.bv fun z174_147 ez174_147 => ?_
                                    try have qz174_147 := tdiv_nat z172_146 1000000
                                    have rz174_147 := (wI64 ez174_147).1
                                    try replace ez174_147 := (wI64 ez174_147).2 (by omega)
                                    refine Ok.ckf (by first | omega | decide | (simp; omega) | (simp; done)) fun k22 => ?_
                                    refine Ok.bv fun z176_149 ez176_149 => ?_
                                    have gz176_149 := gelP hx ez176_149 (by omega)
                                    refine Ok.ob (lists_VLookup_tot gz176_149.len1 gz176_149.rt (by have := gz168_143.cols; omega) (by omega)) fun y179_151 ey179_151 hy179_151 => ?_
                                    exact Ok.sm (by first | exact hy179_151 | exact hy179_151.1 | first | trivial | assumption | omega | (simp only; omega))
                                · try simp only [ez152_127, dF] at c
                                  refine Ok.ckf (by first | omega | decide | (simp; omega) | (simp; done)) fun k23 => ?_
                                  refine Ok.bv fun z182_153 ez182_153 => ?_
                                  have gz182_153 := gelP hx ez182_153 (by omega)
                                  refine Ok.ob (funcs_single_tot gz182_153) fun y184_155 ey184_155 hy184_155 => ?_
                                  refine Ok.ob (funcs_kind_tot hy184_155) fun y185_156 ey185_156 hy185_156 => ?_
                                  exact Ok.sm (by first | exact hy185_156 | exact hy185_156.1 | first | trivial | assumption | omega | (simp only; omega))
 clear eJ5
 refine Ok.bv fun z11_157 ez11_157 => ?_
 refine Ok.it (fun c => ?_) (fun c => ?_)
 · try simp only [ez11_157, dT] at c
   exact hJ5 _ (by first | trivial | assumption | omega | (simp only; omega) | (simp only; assumption) | (simp; omega) | (simp; done))
 · try simp only [ez11_157, dF] at c
   refine Ok.bv fun z12_159 ez12_159 => ?_
   exact hJ5 _ (by first | trivial | assumption | omega | (simp only; omega) | (simp only; assumption) | (simp; omega) | (simp; done))
theorem funcs_Apply_tot {x0 : Int} {x1 : List (Arg)} (h6 : 6 ≤ x0 ∧ x0 ≤ 54) (hl : x1.length ≤ 9) (hx : ∀ a ∈ x1, ArgOk a) : Ok (funcs_Apply x0 x1) (Rt) := by
 obtain ⟨nm, b, hnm, hfit, hF⟩ := tree_tot h6 hl
 unfold funcs_Apply
 refine Ok.ob (Ok.of (P := fun r => r = nm) hnm rfl) fun y14_2 ey14_2 hy14_2 => ?_
 refine Ok.ob (Ok.of (P := fun r => r = b) hfit rfl) fun y18_4 ey18_4 hy18_4 => ?_
 refine Ok.bv fun z19_5 ez19_5 => ?_
 refine Ok.it (fun c => ?_) (fun c => ?_)
 · try simp only [ez19_5, BL] at c
   refine Ok.ob (value_Fail_tot (by first | trivial | assumption | omega | (simp only; omega) | (simp only; assumption) | (simp; omega) | (simp; done))) fun y20_7 ey20_7 hy20_7 => ?_
   exact Ok.sm (by first | exact hy20_7 | exact hy20_7.1 | first | trivial | assumption | omega | (simp only; omega))
 · try simp only [ez19_5, BL] at c
   have hF := hF (by rw [← hy18_4]; exact c)
   rw [← hy14_2] at hF
   refine Ok.bv fun J11 eJ11 => ?_
   have hJ11 : ∀ s11 : Bool, (s11 = true → 1 ≤ x1.length ∧ x1.length ≤ 2) → Ok (J11 s11) (Rt) := by
    intro s11 hs11
    rw [eJ11]
    refine Ok.it (fun c => ?_) (fun c => ?_)
    · have ha := hs11 c
      refine Ok.ob (funcs_nums_tot hl hx) fun y38_13 ey38_13 hy38_13 => ?_
      refine Ok.bv fun z43_17 ez43_17 => ?_
      refine Ok.it (fun c => ?_) (fun c => ?_)
      · try simp only [ez43_17, dT] at c
        exact Ok.sm (by first | exact hy38_13.1 | exact hy38_13.2 | first | trivial | assumption | omega | (simp only; omega))
      · try simp only [ez43_17, dF] at c
        have hq := hy38_13.2 c
        have hq2 := hq.2
        refine Ok.bv fun z47_20 ez47_20 => ?_
        refine Ok.it (fun c => ?_) (fun c => ?_)
        · try simp only [ez47_20, dT] at c
          refine Ok.ckf (by first | omega | decide | (simp; omega) | (simp; done)) fun k1 => ?_
          refine Ok.bv fun z50_23 ez50_23 => ?_
          have gz50_23 := gelP hq2 ez50_23 (by omega)
          refine Ok.ob (maths_One_tot gz50_23) fun y52_24 ey52_24 hy52_24 => ?_
          exact Ok.sm (by first | exact hy52_24 | exact hy52_24.1 | first | trivial | assumption | omega | (simp only; omega))
        · try simp only [ez47_20, dF] at c
          refine Ok.ckf (by first | omega | decide | (simp; omega) | (simp; done)) fun k2 => ?_
          refine Ok.bv fun z55_26 ez55_26 => ?_
          have gz55_26 := gelP hq2 ez55_26 (by omega)
          refine Ok.ckf (by first | omega | decide | (simp; omega) | (simp; done)) fun k3 => ?_
          refine Ok.bv fun z58_28 ez58_28 => ?_
          have gz58_28 := gelP hq2 ez58_28 (by omega)
          refine Ok.ob (maths_Two_tot gz55_26 gz58_28) fun y60_29 ey60_29 hy60_29 => ?_
          exact Ok.sm (by first | exact hy60_29 | exact hy60_29.1 | first | trivial | assumption | omega | (simp only; omega))
    · refine Ok.bv fun J31 eJ31 => ?_
      have hJ31 : ∀ s31 : Bool, (s31 = true → 1 ≤ x1.length) → Ok (J31 s31) (Rt) := by
       intro s31 hs31
       rw [eJ31]
       refine Ok.it (fun c => ?_) (fun c => ?_)
       · have ha := hs31 c
         refine Ok.ob (funcs_strs_tot hl hx) fun y73_33 ey73_33 hy73_33 => ?_
         refine Ok.bv fun z78_37 ez78_37 => ?_
         refine Ok.it (fun c => ?_) (fun c => ?_)
         · try simp only [ez78_37, dT] at c
           exact Ok.sm (by first | exact hy73_33.1 | exact hy73_33.2 | first | trivial | assumption | omega | (simp only; omega))
         · try simp only [ez78_37, dF] at c
           have hq := hy73_33.2 c
           have hq2 := hq.2
           refine Ok.bv fun z82_40 ez82_40 => ?_
           refine Ok.bv fun z85_41 ez85_41 => ?_
           refine Ok.bv fun z86_42 ez86_42 => ?_
           refine Ok.it (fun c => ?_) (fun c => ?_)
           · try simp only [ez86_42, ez85_41, ez82_40, BL] at c
             refine Ok.ckf (by first | omega | decide | (simp; omega) | (simp; done)) fun k4 => ?_
             refine Ok.bv fun z89_45 ez89_45 => ?_
             have gz89_45 := gelP hq2 ez89_45 (by omega)
             refine Ok.ob (texts_One_tot gz89_45) fun y91_46 ey91_46 hy91_46 => ?_
             exact Ok.sm (by first | exact hy91_46 | exact hy91_46.1 | first | trivial | assumption | omega | (simp only; omega))
           · try simp only [ez86_42, ez85_41, ez82_40, BL] at c
             refine Ok.ob (texts_More_tot (by omega) hq.2) fun y94_47 ey94_47 hy94_47 => ?_
             exact Ok.sm (by first | exact hy94_47 | exact hy94_47.1 | first | trivial | assumption | omega | (simp only; omega))
       · refine Ok.bv fun J49 eJ49 => ?_
         have hJ49 : ∀ s49 : Bool, (s49 = true → 2 ≤ x1.length ∧ (y14_2 = [82, 69, 80, 84] → x1.length = 2)) → Ok (J49 s49) (Rt) := by
          intro s49 hs49
          rw [eJ49]
          refine Ok.it (fun c => ?_) (fun c => ?_)
          · have ha := hs49 c
            refine Ok.ckf (by first | omega | decide | (simp; omega) | (simp; done)) fun k5 => ?_
            refine Ok.bv fun z102_52 ez102_52 => ?_
            have lz102_52 := cutL_len x1 (0 : Int) (1 : Int) (by omega)
            rw [← ez102_52] at lz102_52
            have az102_52 := all_cut hx (0 : Int) (1 : Int)
            rw [← ez102_52] at az102_52
            refine Ok.ob (funcs_strs_tot (by omega) az102_52) fun y103_54 ey103_54 hy103_54 => ?_
            refine Ok.bv fun z108_58 ez108_58 => ?_
            refine Ok.it (fun c => ?_) (fun c => ?_)
            · try simp only [ez108_58, dT] at c
              exact Ok.sm (by first | exact hy103_54.1 | exact hy103_54.2 | first | trivial | assumption | omega | (simp only; omega))
            · try simp only [ez108_58, dF] at c
              have hq := hy103_54.2 c
              have hq2 := hq.2
              refine Ok.ckf (by first | omega | decide | (simp; omega) | (simp; done)) fun k6 => ?_
              refine Ok.bv fun z112_61 ez112_61 => ?_
              have lz112_61 := cutL_len x1 (1 : Int) (x1.length : Int) (by omega)
              rw [← ez112_61] at lz112_61
              have az112_61 := all_cut hx (1 : Int) (x1.length : Int)
              rw [← ez112_61] at az112_61
              refine Ok.ob (funcs_nums_tot (by omega) az112_61) fun y113_63 ey113_63 hy113_63 => ?_
              refine Ok.bv fun z118_66 ez118_66 => ?_
              refine Ok.it (fun c => ?_) (fun c => ?_)
              · try simp only [ez118_66, dT] at c
                exact Ok.sm (by first | exact hy113_63.1 | exact hy113_63.2 | first | trivial | assumption | omega | (simp only; omega))
              · try simp only [ez118_66, dF] at c
                have hp := hy113_63.2 c
                refine Ok.ckf (by first | omega | decide | (simp; omega) | (simp; done)) fun k7 => ?_
                refine Ok.bv fun z122_69 ez122_69 => ?_
                have gz122_69 := gelP hq2 ez122_69 (by omega)
                refine Ok.ob (texts_Part_tot gz122_69 (by omega) hp.2 (fun g => by have := ha.2 g; omega)) fun y125_70 ey125_70 hy125_70 => ?_
                exact Ok.sm (by first | exact hy125_70 | exact hy125_70.1 | first | trivial | assumption | omega | (simp only; omega))
          · refine Ok.ob (funcs_list_tot hl hx hF.1 hF.2.2) fun y128_71 ey128_71 hy128_71 => ?_
            exact Ok.sm (by first | exact hy128_71 | exact hy128_71.1 | first | trivial | assumption | omega | (simp only; omega))
         clear eJ49
         refine Ok.bv fun z96_72 ez96_72 => ?_
         refine Ok.it (fun c => ?_) (fun c => ?_)
         · try simp only [ez96_72, dT] at c
           exact hJ49 _ (by intro _; have a := hF.1; refine ⟨by rw [c] at a; exact Nat.le_trans (by decide) a, fun h => ?_⟩; have a := hF.1; have b := hF.2.1; rw [h] at a b; exact Nat.le_antisymm (Nat.le_trans b (by decide)) (Nat.le_trans (by decide) a))
         · try simp only [ez96_72, dF] at c
           refine Ok.bv fun z97_74 ez97_74 => ?_
           refine Ok.it (fun c => ?_) (fun c => ?_)
           · try simp only [ez97_74, dT] at c
             exact hJ49 _ (by intro _; have a := hF.1; refine ⟨by rw [c] at a; exact Nat.le_trans (by decide) a, fun h => ?_⟩; have a := hF.1; have b := hF.2.1; rw [h] at a b; exact Nat.le_antisymm (Nat.le_trans b (by decide)) (Nat.le_trans (by decide) a))
           · try simp only [ez97_74, dF] at c
             refine Ok.bv fun z98_76 ez98_76 => ?_
             refine Ok.it (fun c => ?_) (fun c => ?_)
             · try simp only [ez98_76, dT] at c
               exact hJ49 _ (by intro _; have a := hF.1; refine ⟨by rw [c] at a; exact Nat.le_trans (by decide) a, fun h => ?_⟩; have a := hF.1; have b := hF.2.1; rw [h] at a b; exact Nat.le_antisymm (Nat.le_trans b (by decide)) (Nat.le_trans (by decide) a))
             · try simp only [ez98_76, dF] at c
               refine Ok.bv fun z99_78 ez99_78 => ?_
               exact hJ49 _ (by intro g; rw [ez99_78, dT] at g; have a := hF.1; refine ⟨by rw [g] at a; exact Nat.le_trans (by decide) a, fun h => ?_⟩; have a := hF.1; have b := hF.2.1; rw [h] at a b; exact Nat.le_antisymm (Nat.le_trans b (by decide)) (Nat.le_trans (by decide) a))
      clear eJ31
      refine Ok.bv fun z62_79 ez62_79 => ?_
      refine Ok.it (fun c => ?_) (fun c => ?_)
      · try simp only [ez62_79, dT] at c
        exact hJ31 _ (by intro _; have a := hF.1; have b := hF.2.1; rw [c] at a; exact Nat.le_trans (by decide) a)
      · try simp only [ez62_79, dF] at c
        refine Ok.bv fun z63_81 ez63_81 => ?_
        refine Ok.it (fun c => ?_) (fun c => ?_)
        · try simp only [ez63_81, dT] at c
          exact hJ31 _ (by intro _; have a := hF.1; have b := hF.2.1; rw [c] at a; exact Nat.le_trans (by decide) a)
        · try simp only [ez63_81, dF] at c
          refine Ok.bv fun z64_83 ez64_83 => ?_
          refine Ok.it (fun c => ?_) (fun c => ?_)
          · try simp only [ez64_83, dT] at c
            exact hJ31 _ (by intro _; have a := hF.1; have b := hF.2.1; rw [c] at a; exact Nat.le_trans (by decide) a)
          · try simp only [ez64_83, dF] at c
            refine Ok.bv fun z65_85 ez65_85 => ?_
            refine Ok.it (fun c => ?_) (fun c => ?_)
            · try simp only [ez65_85, dT] at c
              exact hJ31 _ (by intro _; have a := hF.1; have b := hF.2.1; rw [c] at a; exact Nat.le_trans (by decide) a)
            · try simp only [ez65_85, dF] at c
              refine Ok.bv fun z66_87 ez66_87 => ?_
              refine Ok.it (fun c => ?_) (fun c => ?_)
              · try simp only [ez66_87, dT] at c
                exact hJ31 _ (by intro _; have a := hF.1; have b := hF.2.1; rw [c] at a; exact Nat.le_trans (by decide) a)
              · try simp only [ez66_87, dF] at c
                refine Ok.bv fun z67_89 ez67_89 => ?_
                refine Ok.it (fun c => ?_) (fun c => ?_)
                · try simp only [ez67_89, dT] at c
                  exact hJ31 _ (by intro _; have a := hF.1; have b := hF.2.1; rw [c] at a; exact Nat.le_trans (by decide) a)
                · try simp only [ez67_89, dF] at c
                  refine Ok.bv fun z68_91 ez68_91 => ?_
                  refine Ok.it (fun c => ?_) (fun c => ?_)
                  · try simp only [ez68_91, dT] at c
                    exact hJ31 _ (by intro _; have a := hF.1; have b := hF.2.1; rw [c] at a; exact Nat.le_trans (by decide) a)
                  · try simp only [ez68_91, dF] at c
                    refine Ok.bv fun z69_93 ez69_93 => ?_
                    refine Ok.it (fun c => ?_) (fun c => ?_)
                    · try simp only [ez69_93, dT] at c
                      exact hJ31 _ (by intro _; have a := hF.1; have b := hF.2.1; rw [c] at a; exact Nat.le_trans (by decide) a)
                    · try simp only [ez69_93, dF] at c
                      refine Ok.bv fun z70_95 ez70_95 => ?_
                      exact hJ31 _ (by intro g; rw [ez70_95, dT] at g; have a := hF.1; have b := hF.2.1; rw [g] at a; exact Nat.le_trans (by decide) a)
   clear eJ11
   refine Ok.bv fun z23_96 ez23_96 => ?_
   refine Ok.it (fun c => ?_) (fun c => ?_)
   · try simp only [ez23_96, dT] at c
     exact hJ11 _ (by intro _; have a := hF.1; have b := hF.2.1; rw [c] at a b; exact ⟨Nat.le_trans (by decide) a, Nat.le_trans b (by decide)⟩)
   · try simp only [ez23_96, dF] at c
     refine Ok.bv fun z24_98 ez24_98 => ?_
     refine Ok.it (fun c => ?_) (fun c => ?_)
     · try simp only [ez24_98, dT] at c
       exact hJ11 _ (by intro _; have a := hF.1; have b := hF.2.1; rw [c] at a b; exact ⟨Nat.le_trans (by decide) a, Nat.le_trans b (by decide)⟩)
     · try simp only [ez24_98, dF] at c
       refine Ok.bv fun z25_100 ez25_100 => ?_
       refine Ok.it (fun c => ?_) (fun c => ?_)
       · try simp only [ez25_100, dT] at c
         exact hJ11 _ (by intro _; have a := hF.1; have b := hF.2.1; rw [c] at a b; exact ⟨Nat.le_trans (by decide) a, Nat.le_trans b (by decide)⟩)
       · try simp only [ez25_100, dF] at c
         refine Ok.bv fun z26_102 ez26_102 => ?_
         refine Ok.it (fun c => ?_) (fun c => ?_)
         · try simp only [ez26_102, dT] at c
           exact hJ11 _ (by intro _; have a := hF.1; have b := hF.2.1; rw [c] at a b; exact ⟨Nat.le_trans (by decide) a, Nat.le_trans b (by decide)⟩)
         · try simp only [ez26_102, dF] at c
           refine Ok.bv fun z27_104 ez27_104 => ?_
           refine Ok.it (fun c => ?_) (fun c => ?_)
           · try simp only [ez27_104, dT] at c
             exact hJ11 _ (by intro _; have a := hF.1; have b := hF.2.1; rw [c] at a b; exact ⟨Nat.le_trans (by decide) a, Nat.le_trans b (by decide)⟩)
           · try simp only [ez27_104, dF] at c
             refine Ok.bv fun z28_106 ez28_106 => ?_
             refine Ok.it (fun c => ?_) (fun c => ?_)
             · try simp only [ez28_106, dT] at c
               exact hJ11 _ (by intro _; have a := hF.1; have b := hF.2.1; rw [c] at a b; exact ⟨Nat.le_trans (by decide) a, Nat.le_trans b (by decide)⟩)
             · try simp only [ez28_106, dF] at c
               refine Ok.bv fun z29_108 ez29_108 => ?_
               refine Ok.it (fun c => ?_) (fun c => ?_)
               · try simp only [ez29_108, dT] at c
                 exact hJ11 _ (by intro _; have a := hF.1; have b := hF.2.1; rw [c] at a b; exact ⟨Nat.le_trans (by decide) a, Nat.le_trans b (by decide)⟩)
               · try simp only [ez29_108, dF] at c
                 refine Ok.bv fun z30_110 ez30_110 => ?_
                 refine Ok.it (fun c => ?_) (fun c => ?_)
                 · try simp only [ez30_110, dT] at c
                   exact hJ11 _ (by intro _; have a := hF.1; have b := hF.2.1; rw [c] at a b; exact ⟨Nat.le_trans (by decide) a, Nat.le_trans b (by decide)⟩)
                 · try simp only [ez30_110, dF] at c
                   refine Ok.bv fun z31_112 ez31_112 => ?_
                   refine Ok.it (fun c => ?_) (fun c => ?_)
                   · try simp only [ez31_112, dT] at c
                     exact hJ11 _ (by intro _; have a := hF.1; have b := hF.2.1; rw [c] at a b; exact ⟨Nat.le_trans (by decide) a, Nat.le_trans b (by decide)⟩)
                   · try simp only [ez31_112, dF] at c
                     refine Ok.bv fun z32_114 ez32_114 => ?_
                     refine Ok.it (fun c => ?_) (fun c => ?_)
                     · try simp only [ez32_114, dT] at c
                       exact hJ11 _ (by intro _; have a := hF.1; have b := hF.2.1; rw [c] at a b; exact ⟨Nat.le_trans (by decide) a, Nat.le_trans b (by decide)⟩)
                     · try simp only [ez32_114, dF] at c
                       refine Ok.bv fun z33_116 ez33_116 => ?_
                       refine Ok.it (fun c => ?_) (fun c => ?_)
                       · try simp only [ez33_116, dT] at c
                         exact hJ11 _ (by intro _; have a := hF.1; have b := hF.2.1; rw [c] at a b; exact ⟨Nat.le_trans (by decide) a, Nat.le_trans b (by decide)⟩)
                       · try simp only [ez33_116, dF] at c
                         refine Ok.bv fun z34_118 ez34_118 => ?_
                         refine Ok.it (fun c => ?_) (fun c => ?_)
                         · try simp only [ez34_118, dT] at c
                           exact hJ11 _ (by intro _; have a := hF.1; have b := hF.2.1; rw [c] at a b; exact ⟨Nat.le_trans (by decide) a, Nat.le_trans b (by decide)⟩)
                         · try simp only [ez34_118, dF] at c
                           refine Ok.bv fun z35_120 ez35_120 => ?_
                           exact hJ11 _ (by intro g; rw [ez35_120, dT] at g; have a := hF.1; have b := hF.2.1; rw [g] at a b; exact ⟨Nat.le_trans (by decide) a, Nat.le_trans b (by decide)⟩)
end Go.Sp
end
section
namespace Go.Sp
open Go.Stp Go.ValP
theorem funcs_Unary_tot {op : Int} {v : V} (h : Rt v) : Ok (funcs_Unary op v) Rt := by
 unfold funcs_Unary
 refine Ok.ob (value_ToNum_rt h) fun y _ hy => Ok.bv fun z _ => Ok.it (fun _ => Ok.sm hy.1) fun _ => ?_
 have hn := hy.1.n
 refine Ok.bv fun z _ => Ok.it (fun _ => ?_) fun _ => ?_
 · refine Ok.bv fun z ez => ?_
   have := (wI64 ez).2 (by omega)
   exact Ok.ob (value_Num_tot (by omega)) fun y _ hy => Ok.sm hy.1
 · exact Ok.ob (num_Quo_tot (by omega) (by omega)) fun y _ hy => Ok.ob (value_Made_tot fun _ => hy) fun y _ hy => Ok.sm hy.1
theorem funcs_Binary_tot {op : Int} {x y : V} (ho : 1 ≤ op ∧ op ≤ 11) (hx : Rt x) (hy : Rt y) (kx : x.k ≠ 4) (ky : y.k ≠ 4) : Ok (funcs_Binary op x y) Rt := by
 unfold funcs_Binary
 refine Ok.bv fun z0 e0 => Ok.it (fun c0 => ?_) fun c0 => ?_
 · rw [e0, dT] at c0
   refine Ok.ob (value_Compare_tot x y) fun y0 _ _ => Ok.bv fun _ _ => Ok.bv fun _ _ => Ok.bv fun _ _ => Ok.bv fun _ _ => Ok.bv fun _ _ => Ok.bv fun _ _ => Ok.bv fun z1 e1 => ?_
   have := (wI64 e1).2 (by omega)
   exact Ok.ck (by omega) (Ok.bv fun _ _ => Ok.ob value_Bool_tot fun y _ hy => Ok.sm hy)
 refine Ok.bv fun z1 e1 => Ok.it (fun c1 => ?_) fun c1 => ?_
 · refine Ok.ob (value_Show_rt hx kx) fun a _ ha => Ok.ob (value_Show_rt hy ky) fun b _ hb => Ok.ck (by omega) (Ok.bv fun _ _ => Ok.ob value_Text_tot fun y _ hy => Ok.sm hy.1)
 refine Ok.ob (value_ToNum_rt hx) fun a _ ha => Ok.ob (value_ToNum_rt hy) fun b _ hb => Ok.bv fun _ _ => Ok.it (fun _ => Ok.sm ha.1) fun _ => Ok.bv fun _ _ => Ok.it (fun _ => Ok.sm hb.1) fun _ => ?_
 have na := ha.1.n
 have nb := hb.1.n
 refine Ok.bv fun _ _ => Ok.it (fun _ => ?_) fun _ => ?_
 · exact Ok.ob (num_Add_tot _ _) fun y _ hy => Ok.ob (value_Made_tot hy) fun y _ hy => Ok.sm hy.1
 refine Ok.bv fun _ _ => Ok.it (fun _ => ?_) fun _ => ?_
 · exact Ok.ob (num_Sub_tot _ _) fun y _ hy => Ok.ob (value_Made_tot hy) fun y _ hy => Ok.sm hy.1
 refine Ok.bv fun _ _ => Ok.it (fun _ => ?_) fun _ => ?_
 · exact Ok.ob (num_Mul_tot (by omega) (by omega)) fun y _ hy => Ok.ob (value_Made_tot fun _ => hy) fun y _ hy => Ok.sm hy.1
 refine Ok.bv fun _ _ => Ok.it (fun _ => ?_) fun _ => ?_
 · exact Ok.ob (value_Fail_tot (by omega)) fun y _ hy => Ok.sm hy.1
 exact Ok.ob (num_Quo_tot (by omega) (by omega)) fun y _ hy => Ok.ob (value_Made_tot fun _ => hy) fun y _ hy => Ok.sm hy.1
theorem funcs_Bears_tot {op : Int} (ho : 6 ≤ op ∧ op ≤ 54) : Ok (funcs_Bears op) fun _ => True := by
 obtain ⟨nm, b, h1, _⟩ := tree_tot (n := 0) ho (by omega)
 unfold funcs_Bears
 rw [h1]
 refine Ok.os fun y _ => Ok.bv fun J eJ => ?_
 have hJ : ∀ s, Ok (J s) fun _ => True := fun s => by rw [eJ]; exact Ok.it (fun _ => Ok.sm trivial) fun _ => Ok.sm trivial
 clear eJ
 iterate 9 refine Ok.bv fun z _ => Ok.it (fun _ => hJ z) fun _ => ?_
 exact Ok.bv fun z _ => hJ z
def okP (p : List V) : Prop := p.length = 128 ∧ ∀ v ∈ p, Rt v
theorem at_rt {p : List V} (hp : okP p) (c : C) : Ok (reckonerref13_Place_At p c) Rt := by
 unfold reckonerref13_Place_At
 refine Ok.bv fun z1 e1 => Ok.bv fun z2 e2 => Ok.bv fun z3 e3 => Ok.bv fun z4 e4 => Ok.bv fun z5 e5 => Ok.bv fun z6 e6 => Ok.bv fun z7 e7 => Ok.bv fun z8 e8 => Ok.bv fun z9 e9 => Ok.bv fun z10 e10 => Ok.bv fun z11 e11 => Ok.it (fun _ => Ok.sm rt0) fun h => ?_
 rw [e11, e10, e9, e8, e7, e6, e5, e4, e3, e2, e1] at h
 simp at h
 refine Ok.bv fun z12 e12 => ?_
 have := (wI64 e12).2 (by omega)
 refine Ok.bv fun z13 e13 => ?_
 have := (wI64 e13).2 (by omega)
 refine Ok.ck (by omega) (Ok.ck (by omega) (Ok.bv fun z14 e14 => Ok.sm ?_))
 exact gelP hp.2 e14 (by rw [hp.1]; omega)
abbrev ks (m : List (C × Bool)) : List C := m.map (·.1)
theorem mput_ks (m : List (C × Bool)) (k : C) (v : Bool) : (ks (mput m k v) = ks m ∧ k ∈ ks m) ∨ ks (mput m k v) = ks m ++ [k] := by
 unfold mput
 cases h : kAt k m 0 with
 | none => right; simp
 | some q =>
  left
  obtain ⟨i, b⟩ := q
  have h1 := (kAt_some h).2
  simp only [Nat.sub_zero] at h1
  have hk : (ks m)[i]? = some k := by rw [List.getElem?_map, h1]; rfl
  refine ⟨?_, List.mem_of_getElem? hk⟩
  show ks (m.set i (k, v)) = ks m
  rw [ks, List.map_set]
  apply List.ext_getElem?
  intro j
  rw [List.getElem?_set]
  by_cases e : i = j
  · subst e
    have hi : i < (m.map (·.1)).length := by
     rw [List.getElem?_eq_some_iff] at hk
     exact hk.1
    rw [if_pos rfl, if_pos hi]
    exact hk.symm
  · rw [if_neg e]
theorem mput_in (m : List (C × Bool)) (k : C) (v : Bool) : k ∈ ks (mput m k v) := by
 rcases mput_ks m k v with ⟨h, g⟩ | h
 · rw [h]; exact g
 · rw [h]; simp
structure Gr (m : List (C × Bool)) (B : Nat) (m' : List (C × Bool)) : Prop where
 len : m'.length ≤ m.length + B
 sub : ∀ c ∈ ks m, c ∈ ks m'
theorem Gr.refl (m : List (C × Bool)) (B : Nat) : Gr m B m := ⟨by omega, fun _ h => h⟩
theorem Gr.trans {m m1 m2 : List (C × Bool)} {B B' B2 : Nat} (h : Gr m B m1) (k : Gr m1 B' m2) (e : B + B' ≤ B2) : Gr m B2 m2 := ⟨by have := h.len; have := k.len; omega, fun c hc => k.sub c (h.sub c hc)⟩
theorem Gr.le {m m1 : List (C × Bool)} {B B2 : Nat} (h : Gr m B m1) (e : B ≤ B2) : Gr m B2 m1 := ⟨by have := h.len; omega, h.sub⟩
theorem Gr.put (m : List (C × Bool)) (k : C) (v : Bool) : Gr m 1 (mput m k v) := by
 refine ⟨?_, fun c hc => ?_⟩
 · rcases mput_ks m k v with ⟨h, _⟩ | h <;> have := congrArg List.length h <;> simp at this <;> omega
 · rcases mput_ks m k v with ⟨h, _⟩ | h <;> rw [h]
   · exact hc
   · exact List.mem_append_left _ hc
def Org (R : Rn) (m : List (C × Bool)) (g : Gt) : Prop := g.v.k = 4 → g.c = R.c ∨ (g.c ∈ ks m ∧ reckonerref13_Place_At R.p g.c = some g.v)
theorem Org.mono {R : Rn} {m m' : List (C × Bool)} {g : Gt} (h : Org R m g) (k : ∀ c ∈ ks m, c ∈ ks m') : Org R m' g := fun e => (h e).imp id fun ⟨a, b⟩ => ⟨k _ a, b⟩
structure EvP (R : Rn) (m : List (C × Bool)) (B : Nat) (r : Gt × List (C × Bool)) : Prop where
 rt : Rt r.1.v
 gr : Gr m B r.2
 org : Org R r.2 r.1
theorem EvP.over {R : Rn} {m m1 : List (C × Bool)} {B B' B2 : Nat} {r : Gt × List (C × Bool)} (h : Gr m B m1) (k : EvP R m1 B' r) (e : B + B' ≤ B2) : EvP R m B2 r := ⟨k.rt, h.trans k.gr e, k.org⟩
theorem EvP.le {R : Rn} {m : List (C × Bool)} {B B2 : Nat} {r : Gt × List (C × Bool)} (k : EvP R m B r) (e : B ≤ B2) : EvP R m B2 r := ⟨k.rt, k.gr.le e, k.org⟩
theorem made_ok {R : Rn} {v : V} : Ok (eval_run_made R v) fun g => g = ⟨v, R.c⟩ := Ok.sm rfl
theorem EvP.made {R : Rn} {m m' : List (C × Bool)} {B : Nat} {v : V} {g : Gt} (hv : Rt v) (h : Gr m B m') (e : g = ⟨v, R.c⟩) : EvP R m B (g, m') := by
 subst e
 exact ⟨hv, h, fun _ => .inl rfl⟩
theorem cell_ok {R : Rn} (hp : okP R.p) (c : C) (m : List (C × Bool)) : Ok (eval_run_cell R c m) (EvP R m 1) := by
 unfold eval_run_cell
 refine Ok.bv fun m' em => ?_
 have hV : Ok (reckonerref13_Place_Value R.p c) fun r => Rt r.1 ∧ (r.1.k = 4 → r.2 = c ∧ reckonerref13_Place_At R.p c = some r.1) := by
  unfold reckonerref13_Place_Value
  refine Ok.ob (at_rt hp c) fun y ey hy => Ok.bv fun z ez => Ok.it (fun _ => Ok.sm ⟨hy, fun _ => ⟨rfl, ey⟩⟩) fun h => Ok.sm ⟨hy, fun g => ?_⟩
  rw [ez] at h
  simp at h
  exact absurd g h
 refine Ok.ob hV fun y ey hy => Ok.sm ⟨hy.1, by rw [em]; exact Gr.put _ _ _, fun g => .inr ?_⟩
 obtain ⟨h1, h2⟩ := hy.2 g
 dsimp only at g ⊢
 rw [h1, em]
 exact ⟨mput_in _ _ _, h2⟩
structure Box (a b : C) : Prop where
 c0 : 0 ≤ a.c
 c1 : a.c ≤ b.c
 c2 : b.c ≤ a.c + 1
 c3 : b.c ≤ 100
 r0 : 0 ≤ a.r
 r1 : a.r ≤ b.r
 r2 : b.r ≤ a.r + 2
 r3 : b.r ≤ 100
structure NdB (n : Nd) : Prop where
 one : n.k = 2 → Box n.a.c n.a.c
 two : n.k = 3 → Box n.a.c n.b.c
theorem order_ok {a b : C} (h : Box a b) : Ok (addr_Order a b) fun r => r.2.2 = true → r.1 = a ∧ r.2.1 = ⟨a.s, b.c, b.r⟩ := by
 have := h.c1
 have := h.r1
 unfold addr_Order
 refine Ok.bv fun z ez => Ok.it (fun _ => Ok.sm fun g => absurd g Bool.false_ne_true) fun _ => ?_
 refine Ok.bv fun z1 e1 => Ok.bv fun z2 e2 => Ok.bv fun z3 e3 => Ok.bv fun z4 e4 => Ok.sm fun _ => ?_
 rw [Int.min_eq_left (by omega)] at e1 e2
 rw [Int.max_eq_right (by omega)] at e3 e4
 rw [e1, e2, e3, e4]
 exact ⟨rfl, rfl⟩
theorem name_ok (p : List V) (nm : List UInt8) : Ok (reckonerref13_Place_Name p nm) fun r => NdB r.1 := by
 unfold reckonerref13_Place_Name
 refine Ok.bv fun _ _ => Ok.it (fun _ => Ok.sm ⟨fun _ => ?_, fun h => ?_⟩) fun _ => Ok.bv fun _ _ => Ok.it (fun _ => Ok.sm ⟨fun h => ?_, fun _ => ?_⟩) fun _ => Ok.sm ⟨fun h => ?_, fun h => ?_⟩
 · constructor <;> simp
 · simp at h
 · simp at h
 · constructor <;> simp
 · simp at h
 · simp at h
theorem area_ok {p : List V} {n : Nd} (h : NdB n) : Ok (eval_Area p n) fun r => r.2.2 = true → Box r.1 r.2.1 := by
 unfold eval_Area
 refine Ok.bv fun J5 e5 => ?_
 have hJ : ∀ x : Nd, NdB x → Ok (J5 (x.k, x.op, x.v.k, x.v.n, x.v.s, x.a.c.s, x.a.c.c, x.a.c.r, x.a.ac, x.a.ar, x.b.c.s, x.b.c.c, x.b.c.r, x.b.ac, x.b.ar, x.nm, x.l)) fun r => r.2.2 = true → Box r.1 r.2.1 := by
  intro x hx
  rw [e5]
  refine Ok.bv fun z ez => Ok.it (fun c => ?_) fun _ => ?_
  · rw [ez, dT] at c
    have hb := hx.two c
    refine Ok.ob (order_ok (a := ⟨x.a.c.s, x.a.c.c, x.a.c.r⟩) (b := ⟨x.b.c.s, x.b.c.c, x.b.c.r⟩) hb) fun y ey hy => Ok.sm fun g => ?_
    obtain ⟨h1, h2⟩ := hy g
    dsimp only
    rw [h1, h2]
    exact ⟨hb.c0, hb.c1, hb.c2, hb.c3, hb.r0, hb.r1, hb.r2, hb.r3⟩
  · refine Ok.bv fun z ez => Ok.it (fun c => ?_) fun _ => Ok.sm fun g => absurd g Bool.false_ne_true
    rw [ez, dT] at c
    exact Ok.sm fun _ => hx.one c
 refine Ok.bv fun z ez => Ok.it (fun c => ?_) fun _ => hJ n h
 refine Ok.ob (name_ok p n.nm) fun y ey hy => Ok.it (fun _ => hJ y.1 hy) fun _ => hJ n h
theorem flat_len {f : Nat → List C} (h : ∀ i, (f i).length ≤ 2) : ∀ k : Nat, ((List.range k).flatMap f).length ≤ 2 * k
 | 0 => by simp
 | k + 1 => by
  rw [List.range_succ, List.flatMap_append, List.length_append]
  have := flat_len h k
  have := h k
  simp only [List.flatMap_cons, List.flatMap_nil, List.append_nil]
  omega
theorem cells_ok {a b : C} (h : Box a b) : Ok (addr_Cells a b) fun l => l.length ≤ 6 := by
 have := h.c0; have := h.c1; have := h.c2; have := h.c3; have := h.r0; have := h.r1; have := h.r2; have := h.r3
 unfold addr_Cells
 refine Ok.ob (order_ok h) fun o eo ho => ?_
 by_cases hb : o.2.2 = true
 · rw [if_pos hb]
   obtain ⟨h1, h2⟩ := ho hb
   refine Ok.ck (by rw [h1, h2]; dsimp only; omega) (Ok.sm ?_)
   rw [h1, h2]
   unfold cellsL
   have := flat_len (f := rowL a ⟨a.s, b.c, b.r⟩) (fun i => by simp only [rowL, List.length_map, List.length_range]; omega) (b.r - a.r + 1).toNat
   dsimp only
   omega
 · rw [if_neg hb]
   exact Ok.sm (by simp)
variable {rec : Rn → Nd → (List (C × Bool)) → Option ((Gt) × List (C × Bool))} {R : Rn} {n : Nd} {m : List (C × Bool)} {B : Nat}
theorem truth_ok {x : Nd} (h : Ok (rec R x m) (EvP R m B)) : Ok (eval_run_truth rec R x m) (EvP R m B) := by
 unfold eval_run_truth
 refine Ok.ob h fun y ey hy => Ok.bv fun z ez => Ok.it (fun _ => Ok.sm hy) fun c => ?_
 exact Ok.ob (value_ToBool_tot hy.rt) fun b eb hb => Ok.ob made_ok fun g eg hg => Ok.sm (EvP.made hb hy.gr hg)
theorem lazy_ok (h : ∀ m, ∀ x ∈ n.l, Ok (rec R x m) (EvP R m B)) (hl : 1 ≤ n.l.length ∧ n.l.length ≤ 9) (h2 : n.op = 1 ∨ n.op = 2 → 2 ≤ n.l.length) (hop : 1 ≤ n.op ∧ n.op ≤ 5) : Ok (eval_run_lazy rec R n m) (EvP R m (9 * B)) := by
 have gm : ∀ {z : Nd} {i : Int}, z = gel n.l i → 0 ≤ i ∧ i < (n.l.length : Int) → z ∈ n.l := fun e hi => by rw [e]; exact gel_mem hi
 unfold eval_run_lazy
 refine Ok.bv fun J4 e4 => ?_
 have hJ4 : n.op = 1 → ∀ s, s.1 = m → Ok (J4 s) (EvP R m (9 * B)) := by
  intro h1 s hs
  have hl2 := h2 (.inl h1)
  rw [e4]
  refine Ok.ck (by omega) (Ok.bv fun x ex => Ok.ob (truth_ok (h s.1 x (gm ex (by omega)))) fun y ey hy => ?_)
  rw [hs] at hy
  refine Ok.bv fun z ez => Ok.it (fun _ => Ok.sm (hy.le (by omega))) fun _ => Ok.bv fun z ez => Ok.it (fun _ => ?_) fun _ => ?_
  · exact Ok.ck (by omega) (Ok.bv fun x ex => Ok.ob (h y.2 x (gm ex (by omega))) fun q eq hq => Ok.sm (hq.over hy.gr (by omega)))
  refine Ok.bv fun z ez => Ok.it (fun c => ?_) fun _ => ?_
  · rw [ez, dT] at c
    exact Ok.ck (by omega) (Ok.bv fun x ex => Ok.ob (h y.2 x (gm ex (by omega))) fun q eq hq => Ok.sm (hq.over hy.gr (by omega)))
  · exact Ok.ob value_Bool_tot fun b eb hb => Ok.ob made_ok fun g eg hg => Ok.sm (EvP.made hb (hy.gr.le (by omega)) hg)
 clear e4
 refine Ok.bv fun z2 e2 => Ok.it (fun c => ?_) fun c2 => ?_
 · rw [e2, dT] at c
   have hl2 := h2 (.inr c)
   refine Ok.ck (by omega) (Ok.bv fun x ex => Ok.ob (h m x (gm ex (by omega))) fun y ey hy => Ok.bv fun z ez => Ok.it (fun _ => Ok.sm (hy.le (by omega))) fun _ => ?_)
   exact Ok.ck (by omega) (Ok.bv fun x ex => Ok.ob (h y.2 x (gm ex (by omega))) fun q eq hq => Ok.sm (hq.over hy.gr (by omega)))
 rw [e2, dF] at c2
 refine Ok.bv fun J48 e48 => ?_
 have hJ48 : ∀ s : Bool, (s = false → n.op ≠ 3 ∧ n.op ≠ 4) → Ok (J48 s) (EvP R m (9 * B)) := by
  intro s hs
  rw [e48]
  refine Ok.it (fun _ => ?_) fun c => ?_
  · refine Ok.bv fun J51 e51 => Ok.bv fun B56 e56 => ?_
    refine Ok.lp (fun s => ∃ i : Nat, s.1 = (i : Int) ∧ i ≤ n.l.length ∧ Gr m (i * B) s.2.1) (fun s => n.l.length - s.1.toNat) ⟨0, rfl, Nat.zero_le _, Gr.refl _ _⟩ (by simp; omega) ?_
    rintro s ⟨i, h1, h3, h4⟩ next hn
    rw [e56]
    refine Ok.bv fun z ez => Ok.it (fun c => ?_) fun c => ?_
    · rw [ez, h1, dT] at c
      have hi : i < n.l.length := by omega
      have hb : (i + 1) * B ≤ 9 * B := Nat.mul_le_mul_right B (by omega)
      have hb2 : (i + 1) * B = i * B + B := Nat.succ_mul i B
      refine Ok.ck (by omega) (Ok.bv fun x ex => Ok.ob (truth_ok (h s.2.1 x (gm ex (by omega)))) fun y ey hy => ?_)
      have hy' := EvP.over h4 hy (B2 := (i + 1) * B) (by omega)
      refine Ok.bv fun _ _ => Ok.bv fun _ _ => Ok.bv fun _ _ => Ok.bv fun _ _ => Ok.bv fun _ _ => Ok.it (fun _ => Ok.sm (hy'.le hb)) fun _ => Ok.bv fun z9 e9 => ?_
      have e : z9 = ((i + 1 : Nat) : Int) := by
       rw [e9, h1]
       have := (wI64 (z := IntKind.wrap .i64 ((i : Int) + 1)) rfl).2 (by omega)
       rw [this]
       simp
      exact hn _ ⟨i + 1, e, hi, hy'.gr⟩ (by simp only [e, h1]; omega)
    · rw [e51]
      refine Ok.bv fun _ _ => Ok.ob value_Bool_tot fun b eb hb => Ok.ob made_ok fun g eg hg => Ok.sm (EvP.made hb (h4.le (Nat.mul_le_mul_right B (by omega))) hg)
  · obtain ⟨c3, c4⟩ := hs c
    refine Ok.bv fun z ez => Ok.it (fun c => ?_) fun c => ?_
    · refine Ok.ck (by omega) (Ok.bv fun x ex => Ok.ob (h m x (gm ex (by omega))) fun y ey hy => Ok.bv fun z ez => Ok.it (fun _ => Ok.sm (hy.le (by omega))) fun _ => ?_)
      refine Ok.ob (value_ToNum_rt hy.rt) fun v ev hv => Ok.bv fun z ez => Ok.it (fun _ => ?_) fun _ => ?_
      · exact Ok.ob made_ok fun g eg hg => Ok.sm (EvP.made hv.1 (hy.gr.le (by omega)) hg)
      refine Ok.bv fun z1 e1 => Ok.bv fun z2 e2 => Ok.bv fun z3 e3 => Ok.bv fun z4 e4 => Ok.it (fun c => ?_) fun _ => ?_
      · rw [e4, e3, e2, bA, dT, dT] at c
        exact Ok.ck (by omega) (Ok.bv fun x ex => Ok.ob (h y.2 x (gm ex (by omega))) fun q eq hq => Ok.sm (hq.over hy.gr (by omega)))
      · exact Ok.ob (value_Fail_tot (by omega)) fun b eb hb => Ok.ob made_ok fun g eg hg => Ok.sm (EvP.made hb.1 (hy.gr.le (by omega)) hg)
    · rw [ez, dF] at c
      exact hJ4 (by omega) _ rfl
 clear e48
 refine Ok.bv fun z ez => Ok.it (fun c => hJ48 _ (by rw [c]; exact fun g => by cases g)) fun c => Ok.bv fun z' ez' => hJ48 _ fun g => ?_
 rw [ez, dF] at c
 rw [ez', dF] at g
 exact ⟨c, g⟩
end Go.Sp
end
section
namespace Go.Sp
open Go.Stp Go.ValP
variable {rec : Rn → Nd → (List (C × Bool)) → Option ((Gt) × List (C × Bool))} {R : Rn} {n : Nd} {m : List (C × Bool)} {B : Nat}
theorem succ64 {z : Int} {i : Nat} (e : z = IntKind.wrap .i64 ((i : Int) + 1)) (hi : i < 1000000) : z = ((i + 1 : Nat) : Int) := by
 have := (wI64 e).2 (by omega)
 rw [this]
 simp
theorem foldO_ok2 {σ α : Type} {B : σ → α → Option σ} {N : Nat} (I : σ → Nat → Prop) (step : ∀ s i x, i < N → I s i → Ok (B s x) fun s' => I s' (i + 1)) : ∀ (xs : List α) (s : σ) (i : Nat), i + xs.length ≤ N → I s i → Ok (foldO B s xs) fun s' => I s' (i + xs.length)
 | [], s, i, _, h => Ok.sm h
 | x :: xs, s, i, hN, h => Ok.ob (step s i x (by simp only [List.length_cons] at hN; omega) h) fun s' _ hs' => (foldO_ok2 I step xs s' (i + 1) (by simp only [List.length_cons] at hN; omega) hs').mono fun v hv => by
  have e : i + 1 + xs.length = i + (x :: xs).length := by simp only [List.length_cons]; omega
  rw [← e]
  exact hv
theorem strict_ok (hp : okP R.p) (hB : 6 ≤ B) (h : ∀ m, ∀ x ∈ n.l, NdB x ∧ Ok (rec R x m) (EvP R m B)) (hl : n.l.length ≤ 9) (hop : 6 ≤ n.op ∧ n.op ≤ 54) : Ok (eval_run_strict rec R n m) (EvP R m (9 * B)) := by
 have gm : ∀ {z : Nd} {i : Int}, z = gel n.l i → 0 ≤ i ∧ i < (n.l.length : Int) → z ∈ n.l := fun e hi => by rw [e]; exact gel_mem hi
 unfold eval_run_strict
 refine Ok.bv fun J5 e5 => ?_
 have hJ5 : ∀ s, Gr m (9 * B) s.1 → s.2.2.2.2.2.2.2.length ≤ 9 → (∀ a ∈ s.2.2.2.2.2.2.2, ArgOk a) → Ok (J5 s) (EvP R m (9 * B)) := by
  intro s h1 h2 h3
  rw [e5]
  exact Ok.ob (funcs_Apply_tot hop h2 h3) fun v ev hv => Ok.ob made_ok fun g eg hg => Ok.sm (EvP.made hv h1 hg)
 clear e5
 refine Ok.bv fun B11 e11 => ?_
 refine Ok.lp (fun s => ∃ i : Nat, s.1 = (i : Int) ∧ i ≤ n.l.length ∧ Gr m (i * B) s.2.1 ∧ s.2.2.2.2.2.2.2.2.length = i ∧ ∀ a ∈ s.2.2.2.2.2.2.2.2, ArgOk a) (fun s => n.l.length - s.1.toNat) ⟨0, rfl, Nat.zero_le _, Gr.refl _ _, rfl, fun a ha => by cases ha⟩ (by simp; omega) ?_
 rintro s ⟨i, h1, h3, h4, h5, h6⟩ next hn
 rw [e11]
 refine Ok.bv fun z ez => Ok.it (fun c => ?_) fun c => hJ5 _ (h4.le (Nat.mul_le_mul_right B (by omega))) (by dsimp only; omega) h6
 rw [ez, h1, dT] at c
 have hi : i < n.l.length := by omega
 have hb : (i + 1) * B ≤ 9 * B := Nat.mul_le_mul_right B (by omega)
 have hb2 : (i + 1) * B = i * B + B := Nat.succ_mul i B
 refine Ok.ck (by omega) (Ok.bv fun x ex => ?_)
 have hx := h s.2.1 x (gm ex (by omega))
 refine Ok.ob (area_ok (p := R.p) hx.1) fun y ey hy => Ok.bv fun J29 e29 => ?_
 have hJ29 : ∀ q, Gr m ((i + 1) * B) q.1 → (q.2.2.1 = 1 ∨ q.2.2.1 = 2) → q.2.2.2.length ≤ 6 → (∀ g ∈ q.2.2.2, Rt g.v ∧ Org R q.1 g) → Ok (J29 q) (EvP R m (9 * B)) := by
  intro q k1 k2 k3 k4
  rw [e29]
  refine Ok.bv fun J33 e33 => ?_
  have hJ33 : ∀ u, u.2.2.2.2.2.2.length ≤ 6 → (∀ v ∈ u.2.2.2.2.2.2, Rt v) → Ok (J33 u) (EvP R m (9 * B)) := by
   intro u u1 u2
   rw [e33]
   refine Ok.ck (by simp only [List.length_cons, List.length_nil]; omega) (Ok.bv fun w ew => Ok.bv fun z9 e9 => ?_)
   rw [h1] at e9
   have e := succ64 e9 (by omega)
   refine hn _ ⟨i + 1, e, hi, k1, by dsimp only; rw [ew]; simp; omega, ?_⟩ (by simp only [e, h1]; omega)
   dsimp only
   rw [ew]
   exact all_snoc h6 ⟨by dsimp only; omega, u2, k2⟩
  clear e33
  refine Ok.bv fun B43 e43 => ?_
  refine Ok.lp (fun u => ∃ j : Nat, u.1 = (j : Int) ∧ j ≤ q.2.2.2.length ∧ u.2.2.2.2.2.2.2.length = j ∧ ∀ v ∈ u.2.2.2.2.2.2.2, Rt v) (fun u => q.2.2.2.length - u.1.toNat) ⟨0, rfl, Nat.zero_le _, rfl, fun a ha => by cases ha⟩ (by simp; omega) ?_
  rintro u ⟨j, u1, u2, u3, u4⟩ next2 hn2
  rw [e43]
  refine Ok.bv fun z ez => Ok.it (fun c => ?_) fun c => hJ33 _ (by dsimp only; omega) u4
  rw [ez, u1, dT] at c
  refine Ok.ck (by omega) (Ok.bv fun g eg => ?_)
  have hg := k4 g (by rw [eg]; exact gel_mem (by omega))
  refine Ok.bv fun z1 ez1 => ?_
  have hbr : Ok (if z1 = true then funcs_Bears n.op else some default) fun _ => True := Ok.it (fun _ => funcs_Bears_tot hop) fun _ => Ok.sm trivial
  refine Ok.ob hbr fun b eb _ => Ok.bv fun z2 ez2 => Ok.bv fun z3 ez3 => Ok.it (fun _ => Ok.sm ⟨hg.1, k1.le hb, hg.2⟩) fun _ => ?_
  refine Ok.ck (by simp only [List.length_cons, List.length_nil]; omega) (Ok.bv fun w ew => Ok.bv fun z9 e9 => ?_)
  rw [u1] at e9
  have e := succ64 e9 (by omega)
  refine hn2 _ ⟨j + 1, e, by omega, by dsimp only; rw [ew]; simp; omega, ?_⟩ (by simp only [e, u1]; omega)
  dsimp only
  rw [ew]
  exact all_snoc u4 hg.1
 clear e29
 refine Ok.it (fun c => ?_) fun _ => ?_
 · have hbx := hy c
   have := hbx.c0; have := hbx.c1; have := hbx.c2; have := hbx.c3
   refine Ok.bv fun z1 e1 => Ok.bv fun z2 e2 => ?_
   have f1 := (wI64 e1).2 (by omega)
   have f2 := (wI64 e2).2 (by omega)
   refine Ok.ob (cells_ok hbx) fun l el hl6 => Ok.bv fun B70 e70 => ?_
   have hf : Ok (foldO B70 (s.2.1, []) l) fun s' => Gr s.2.1 (0 + l.length) s'.1 ∧ s'.2.length = 0 + l.length ∧ ∀ g ∈ s'.2, Rt g.v ∧ Org R s'.1 g := by
    refine foldO_ok2 (N := 6) (fun s' k => Gr s.2.1 k s'.1 ∧ s'.2.length = k ∧ ∀ g ∈ s'.2, Rt g.v ∧ Org R s'.1 g) ?_ l (s.2.1, []) 0 (by omega) ⟨Gr.refl _ _, rfl, fun a ha => by cases ha⟩
    rintro s' k x hk ⟨g1, g2, g3⟩
    rw [e70]
    refine Ok.ob (cell_ok hp x s'.1) fun y2 ey2 hy2 => Ok.ck (by simp only [List.length_cons, List.length_nil]; omega) (Ok.bv fun w ew => Ok.sm ⟨g1.trans hy2.gr (by omega), ?_, ?_⟩)
    · dsimp only
      rw [ew]
      simp
      omega
    · dsimp only
      rw [ew]
      exact all_snoc (fun g hg => ⟨(g3 g hg).1, (g3 g hg).2.mono hy2.gr.sub⟩) ⟨hy2.rt, hy2.org⟩
   refine Ok.ob hf fun f ef hf => hJ29 _ (h4.trans hf.1 (by omega)) (by dsimp only; omega) (by dsimp only; omega) hf.2.2
 · refine Ok.ob hx.2 fun y2 ey2 hy2 => Ok.ck (by simp) (Ok.bv fun w ew => ?_)
   have hg := h4.trans hy2.gr (B2 := (i + 1) * B) (by omega)
   refine hJ29 _ hg (.inl rfl) (by dsimp only; rw [ew]; simp) ?_
   dsimp only
   rw [ew]
   intro g hg
   simp at hg
   subst hg
   exact ⟨hy2.rt, hy2.org⟩
def okN : Nat → Nd → Prop
 | 0, _ => False
 | d + 1, n => NdB n ∧ (n.k = 1 ∧ Rt n.v ∨ n.k = 2 ∨ n.k = 3 ∨ n.k = 4 ∨ (n.k = 5 ∨ n.k = 6) ∧ n.l.length = 1 ∧ (∀ x ∈ n.l, okN d x) ∨ n.k = 7 ∧ n.l.length = 2 ∧ (1 ≤ n.op ∧ n.op ≤ 11) ∧ (∀ x ∈ n.l, okN d x) ∨
  n.k = 8 ∧ (1 ≤ n.op ∧ n.op ≤ 54) ∧ n.l.length ≤ 9 ∧ (n.op ≤ 5 → 1 ≤ n.l.length) ∧ (n.op = 1 ∨ n.op = 2 → 2 ≤ n.l.length) ∧ ∀ x ∈ n.l, okN d x)
theorem okN.ndB {d : Nat} {n : Nd} (h : okN d n) : NdB n := by
 cases d with
 | zero => exact h.elim
 | succ d => exact h.1
theorem eval_okB (hp : okP R.p) (hB : 6 ≤ B) {d : Nat} (hn : okN (d + 1) n) (h : ∀ m, ∀ x, okN d x → Ok (rec R x m) (EvP R m B)) : Ok (eval_run_eval_B rec R n m) (EvP R m (9 * B)) := by
 have gm : ∀ {z : Nd} {i : Int}, z = gel n.l i → 0 ≤ i ∧ i < (n.l.length : Int) → z ∈ n.l := fun e hi => by rw [e]; exact gel_mem hi
 obtain ⟨hnb, hn⟩ := hn
 unfold eval_run_eval_B
 refine Ok.bv fun z1 e1 => Ok.it (fun c => ?_) fun c1 => ?_
 · rw [e1, dT] at c
   have hv : Rt n.v := by
    rcases hn with h | h | h | h | h | h | h
    · exact h.2
    all_goals omega
   exact Ok.ob made_ok fun g eg hg => Ok.sm (EvP.made hv (Gr.refl _ _) hg)
 rw [e1, dF] at c1
 refine Ok.bv fun J9 e9 => ?_
 have hJ9 : ∀ s : Bool, (s = false → n.k ≠ 2 ∧ n.k ≠ 3 ∧ n.k ≠ 4) → Ok (J9 s) (EvP R m (9 * B)) := by
  intro s hs
  rw [e9]
  refine Ok.it (fun _ => ?_) fun c => ?_
  · refine Ok.ob (area_ok (p := R.p) hnb) fun y ey hy => Ok.bv fun z2 e2 => Ok.it (fun _ => ?_) fun _ => ?_
    · exact Ok.ob (value_Fail_tot (by omega)) fun b eb hb => Ok.ob made_ok fun g eg hg => Ok.sm (EvP.made hb.1 (Gr.refl _ _) hg)
    refine Ok.bv fun z3 e3 => Ok.it (fun _ => ?_) fun _ => ?_
    · exact Ok.ob (value_Fail_tot (by omega)) fun b eb hb => Ok.ob made_ok fun g eg hg => Ok.sm (EvP.made hb.1 (Gr.refl _ _) hg)
    exact Ok.ob (cell_ok hp _ m) fun y ey hy => Ok.sm (hy.le (by omega))
  · have hk := hs c
    refine Ok.bv fun J27 e27 => ?_
    have hJ27 : ∀ s : Bool, (s = true → n.k = 5 ∨ n.k = 6) → (s = false → n.k ≠ 5 ∧ n.k ≠ 6) → Ok (J27 s) (EvP R m (9 * B)) := by
     intro s hs1 hs2
     rw [e27]
     refine Ok.it (fun c => ?_) fun c => ?_
     · have hk5 := hs1 c
       have hq : n.l.length = 1 ∧ ∀ x ∈ n.l, okN d x := by
        rcases hn with h | h | h | h | h | h | h
        · omega
        · omega
        · omega
        · omega
        · exact h.2
        · omega
        · omega
       refine Ok.ck (by omega) (Ok.bv fun x ex => Ok.ob (h m x (hq.2 x (gm ex (by omega)))) fun y ey hy => Ok.bv fun z ez => Ok.it (fun _ => Ok.sm (hy.le (by omega))) fun _ => ?_)
       exact Ok.ob (funcs_Unary_tot hy.rt) fun v ev hv => Ok.ob made_ok fun g eg hg => Ok.sm (EvP.made hv (hy.gr.le (by omega)) hg)
     · have hk5 := hs2 c
       refine Ok.bv fun z4 e4 => Ok.it (fun c => ?_) fun c => ?_
       · rw [e4, dT] at c
         have hq : n.l.length = 2 ∧ (1 ≤ n.op ∧ n.op ≤ 11) ∧ ∀ x ∈ n.l, okN d x := by
          rcases hn with h | h | h | h | h | h | h
          · omega
          · omega
          · omega
          · omega
          · omega
          · exact h.2
          · omega
         refine Ok.ck (by omega) (Ok.bv fun x ex => Ok.ob (h m x (hq.2.2 x (gm ex (by omega)))) fun y ey hy => Ok.bv fun z ez => Ok.it (fun _ => Ok.sm (hy.le (by omega))) fun cx => ?_)
         refine Ok.ck (by omega) (Ok.bv fun x2 ex2 => Ok.ob (h y.2 x2 (hq.2.2 x2 (gm ex2 (by omega)))) fun y2 ey2 hy2 => Ok.bv fun z2 ez2 => Ok.it (fun _ => Ok.sm (hy2.over hy.gr (by omega))) fun cy => ?_)
         rw [ez, dF] at cx
         rw [ez2, dF] at cy
         exact Ok.ob (funcs_Binary_tot hq.2.1 hy.rt hy2.rt cx cy) fun v ev hv => Ok.ob made_ok fun g eg hg => Ok.sm (EvP.made hv (hy.gr.trans hy2.gr (by omega)) hg)
       · rw [e4, dF] at c
         have hq : (1 ≤ n.op ∧ n.op ≤ 54) ∧ n.l.length ≤ 9 ∧ (n.op ≤ 5 → 1 ≤ n.l.length) ∧ (n.op = 1 ∨ n.op = 2 → 2 ≤ n.l.length) ∧ ∀ x ∈ n.l, okN d x := by
          rcases hn with h | h | h | h | h | h | h
          · omega
          · omega
          · omega
          · omega
          · omega
          · omega
          · exact h.2
         refine Ok.bv fun z5 e5 => Ok.it (fun c => ?_) fun c => ?_
         · rw [e5, dT] at c
           exact Ok.ob (lazy_ok (fun m x hx => h m x (hq.2.2.2.2 x hx)) ⟨hq.2.2.1 c, hq.2.1⟩ hq.2.2.2.1 ⟨hq.1.1, c⟩) fun y ey hy => Ok.sm hy
         · rw [e5, dF] at c
           exact Ok.ob (strict_ok hp hB (fun m x hx => ⟨(hq.2.2.2.2 x hx).ndB, h m x (hq.2.2.2.2 x hx)⟩) hq.2.1 ⟨by omega, hq.1.2⟩) fun y ey hy => Ok.sm hy
    clear e27
    refine Ok.bv fun z ez => Ok.it (fun c => hJ27 _ (fun _ => ?_) fun g => ?_) fun c => Ok.bv fun z' ez' => hJ27 _ (fun g => ?_) fun g => ?_
    · rw [ez, dT] at c
      exact .inl c
    · rw [c] at g
      cases g
    · rw [ez', dT] at g
      exact .inr g
    · rw [ez', dF] at g
      rw [ez, dF] at c
      exact ⟨c, g⟩
 clear e9
 refine Ok.bv fun z ez => Ok.it (fun c => hJ9 _ fun g => ?_) fun c => Ok.bv fun z2 ez2 => Ok.it (fun c2 => hJ9 _ fun g => ?_) fun c2 => Ok.bv fun z3 ez3 => hJ9 _ fun g => ?_
 · rw [c] at g
   cases g
 · rw [c2] at g
   cases g
 · rw [ez, dF] at c
   rw [ez2, dF] at c2
   rw [ez3, dF] at g
   exact ⟨c, c2, g⟩
theorem eval_okK (hp : okP R.p) : ∀ (d k : Nat) (n : Nd) (m : List (C × Bool)), d ≤ k → okN d n → Ok (eval_run_eval k R n m) (EvP R m (6 * 9 ^ d))
 | 0, _, _, _, _, h => h.elim
 | d + 1, 0, _, _, hk, _ => absurd hk (by omega)
 | d + 1, k + 1, n, m, hk, h => by
  rw [ev_step]
  have h6 : 1 ≤ 9 ^ d := Nat.one_le_pow _ _ (by omega)
  have e : 6 * 9 ^ (d + 1) = 9 * (6 * 9 ^ d) := by rw [Nat.pow_succ]; omega
  rw [e]
  exact eval_okB hp (by omega) h fun m x hx => eval_okK hp d k x m (by omega) hx
theorem Eval_tot {n : Nd} {self : C} {p : List V} (hp : okP p) {d : Nat} (hd : d ≤ 7) (hn : okN d n) : ∃ r, EvP ⟨p, self⟩ [] (6 * 9 ^ d) r ∧ eval_run_eval KK ⟨p, self⟩ n [] = some r ∧ eval_Eval n self p = some ⟨r.1.v, if r.1.v.k = 4 then r.1.c else ⟨0, 0, 0⟩, srtK r.2⟩ := by
 obtain ⟨r, h, hr⟩ := eval_okK (R := ⟨p, self⟩) hp d KK n [] (by unfold KK; omega) hn
 refine ⟨r, hr, h, ?_⟩
 have hl := hr.gr.len
 have h7 : 9 ^ d ≤ 9 ^ 7 := Nat.pow_le_pow_right (by omega) hd
 have h7' : (9 : Nat) ^ 7 = 4782969 := by decide
 simp only [List.length_nil] at hl
 unfold eval_Eval
 rw [h]
 simp only [obind, bindv, chk]
 by_cases hk : r.1.v.k = 4
 · rw [if_pos (show decide (r.1.v.k = 4) = true by simpa using hk), if_pos (by omega), if_pos hk]
 · rw [if_neg (show ¬ decide (r.1.v.k = 4) = true by simpa using hk), if_pos (by omega), if_neg hk]
end Go.Sp
end
section
namespace Go.Sp
open Go.Stp Go.ValP
def fitOk (c n : Nat) : Bool := match tree_Fits (c + 1 : Nat) (n : Nat) with
 | some b => !b || decide (5 ≤ c) || (decide (1 ≤ n) && (decide (2 ≤ c) || decide (2 ≤ n)))
 | none => false
theorem fitOk_all : ((List.range 54).all fun c => (List.range 10).all fun n => fitOk c n) = true := by decide +kernel
theorem fits_tot {c : Int} {n : Nat} (h : 1 ≤ c ∧ c ≤ 54) (hn : n ≤ 9) : ∃ b, tree_Fits c (n : Int) = some b ∧ (b = true → (c ≤ 5 → 1 ≤ n) ∧ (c = 1 ∨ c = 2 → 2 ≤ n)) := by
 have h1 := List.all_eq_true.1 (List.all_eq_true.1 fitOk_all (c - 1).toNat (List.mem_range.2 (by omega))) n (List.mem_range.2 (by omega))
 unfold fitOk at h1
 rw [show (((c - 1).toNat + 1 : Nat) : Int) = c by omega] at h1
 split at h1
 · rename_i b e1
   refine ⟨b, e1, fun hb => ?_⟩
   subst hb
   simp at h1
   omega
 · cases h1
theorem and3 (n : Int) : 0 ≤ bits .and .i64 n 3 ∧ bits .and .i64 n 3 ≤ 3 := by
 have h : (BitVec.ofInt 64 n &&& BitVec.ofInt 64 3).toNat ≤ 3 := by
  rw [BitVec.toNat_and]
  exact Nat.and_le_right
 show 0 ≤ IntKind.i64.wrap ((BitVec.ofInt 64 n &&& BitVec.ofInt 64 3).toNat : Int) ∧ IntKind.i64.wrap ((BitVec.ofInt 64 n &&& BitVec.ofInt 64 3).toNat : Int) ≤ 3
 generalize (BitVec.ofInt 64 n &&& BitVec.ofInt 64 3).toNat = v at h
 have := (wI64 (z := IntKind.i64.wrap (v : Int)) rfl).2 (by omega)
 omega
structure Fs (N : Nat) (l : List Int) : Prop where
 len : l.length ≤ N
 by_ : ∀ b ∈ l, 0 ≤ b ∧ b ≤ 255
theorem ref_ok {n k : Int} : Ok (reckonerlaw05_ref n k) fun r => 0 ≤ r.c.c ∧ r.c.c ≤ 3 ∧ 0 ≤ r.c.r ∧ r.c.r ≤ 3 := by
 unfold reckonerlaw05_ref
 refine Ok.bv fun _ _ => Ok.bv fun _ _ => Ok.bv fun _ _ => Ok.bv fun _ _ => Ok.bv fun _ _ => Ok.bv fun _ _ => Ok.bv fun z1 e1 => Ok.bv fun z2 e2 => Ok.bv fun z3 e3 => Ok.bv fun J eJ => ?_
 have hJ : ∀ s, Ok (J s) fun r => 0 ≤ r.c.c ∧ r.c.c ≤ 3 ∧ 0 ≤ r.c.r ∧ r.c.r ≤ 3 := by
  intro s
  rw [eJ]
  have h1 := and3 n
  have h2 := and3 z2
  rw [← e1] at h1
  rw [← e3] at h2
  exact Ok.sm ⟨h1.1, h1.2, h2.1, h2.2⟩
 exact Ok.bv fun _ _ => Ok.bv fun _ _ => Ok.bv fun _ _ => Ok.it (fun _ => hJ 1) fun _ => hJ 0
theorem okLit {d : Nat} {v : V} (h : Rt v) : okN (d + 1) ⟨1, 0, v, r0, r0, [], []⟩ := ⟨⟨fun h => by simp at h, fun h => by simp at h⟩, .inl ⟨rfl, h⟩⟩
theorem okCell {d : Nat} {r : Rf} (h : 0 ≤ r.c.c ∧ r.c.c ≤ 3 ∧ 0 ≤ r.c.r ∧ r.c.r ≤ 3) : okN (d + 1) ⟨2, 0, ⟨0, 0, []⟩, r, r0, [], []⟩ := ⟨⟨fun _ => ⟨h.1, by dsimp only; omega, by dsimp only; omega, by dsimp only; omega, h.2.2.1, by dsimp only; omega, by dsimp only; omega, by dsimp only; omega⟩, fun h => by simp at h⟩, .inr (.inl rfl)⟩
theorem ndB_k {n : Nd} (h : 5 ≤ n.k) : NdB n := ⟨fun _ => by omega, fun _ => by omega⟩
theorem okApply {d : Nat} {op : Int} {l : List Nd} (ho : 1 ≤ op ∧ op ≤ 54) (hl : l.length ≤ 9) (h1 : op ≤ 5 → 1 ≤ l.length) (h2 : op = 1 ∨ op = 2 → 2 ≤ l.length) (hx : ∀ x ∈ l, okN d x) : okN (d + 1) ⟨8, op, ⟨0, 0, []⟩, r0, r0, [], l⟩ :=
 ⟨ndB_k (by simp), .inr (.inr (.inr (.inr (.inr (.inr ⟨rfl, ho, hl, h1, h2, hx⟩)))))⟩
theorem okUnary {d : Nat} {k : Int} {x : Nd} (hk : k = 5 ∨ k = 6) (hx : okN d x) : okN (d + 1) ⟨k, 0, ⟨0, 0, []⟩, r0, r0, [], [x]⟩ :=
 ⟨ndB_k (by dsimp only; omega), .inr (.inr (.inr (.inr (.inl ⟨hk, rfl, fun y hy => by simp at hy; subst hy; exact hx⟩))))⟩
theorem okBinary {d : Nat} {op : Int} {x y : Nd} (ho : 1 ≤ op ∧ op ≤ 11) (hx : okN d x) (hy : okN d y) : okN (d + 1) ⟨7, op, ⟨0, 0, []⟩, r0, r0, [], [x, y]⟩ :=
 ⟨ndB_k (by simp), .inr (.inr (.inr (.inr (.inr (.inl ⟨rfl, rfl, ho, all2 hx hy⟩)))))⟩
variable {rec : (List Int) → Int → Option ((Nd) × (List Int))}
theorem formB_ok {d N : Nat} (hd : d ≤ 1000) (hN : N ≤ 1000) {x0 : List Int} (hx : Fs N x0) (h : ∀ l, 1 ≤ d → Fs N l → Ok (rec l ((d : Int) - 1)) fun r => okN d r.1 ∧ Fs N r.2) : Ok (reckonerlaw05_Seed_Formula_B rec x0 (d : Int)) fun r => okN (d + 1) r.1 ∧ Fs N r.2 := by
 unfold reckonerlaw05_Seed_Formula_B
 refine Ok.bv fun J3 e3 => ?_
 have hJ3 : ∀ s, 0 ≤ s.1 ∧ s.1 ≤ 255 → Fs N s.2 → Ok (J3 s) fun r => okN (d + 1) r.1 ∧ Fs N r.2 := by
  intro s hc hs
  rw [e3]
  have d16 : Int.tdiv s.1 16 = s.1 / 16 := Int.tdiv_eq_ediv_of_nonneg hc.1
  have dv : ∀ {z : Int}, z = IntKind.wrap .i64 (Int.tdiv s.1 16) → 0 ≤ z ∧ z ≤ 15 := by
   intro z e
   have := (wI64 e).2 (by omega)
   omega
  refine Ok.bv fun z30 e30 => Ok.bv fun J7 e7 => ?_
  have hJ7 : ∀ q : Int, 0 ≤ q ∧ q < 16 → (6 ≤ q → 1 ≤ d) → Ok (J7 q) fun r => okN (d + 1) r.1 ∧ Fs N r.2 := by
   intro q hq hq6
   rw [e7]
   have hr : 6 ≤ q → ∀ {z : Int} (l : List Int), z = IntKind.wrap .i64 ((d : Int) - 1) → Fs N l → Ok (rec l z) fun r => okN d r.1 ∧ Fs N r.2 := by
    intro g z l e hl
    have h1 := hq6 g
    have e := (wI64 e).2 (by omega)
    rw [e]
    exact h l h1 hl
   refine Ok.bv fun z1 e1 => Ok.it (fun c => ?_) fun c1 => ?_
   · refine Ok.bv fun z2 e2 => Ok.bv fun z3 e3' => ?_
     have h2 := dv e2
     have h3 := (wI64 e3').2 (by omega)
     exact Ok.ob (value_Num_tot (by omega)) fun v ev hv => Ok.ob (Ok.sm (P := fun n => n = (⟨1, 0, v, r0, r0, [], []⟩ : Nd)) rfl) fun n en hn => Ok.sm ⟨by rw [hn]; exact okLit hv.1, hs⟩
   rw [e1, dF] at c1
   refine Ok.bv fun z2 e2 => Ok.it (fun c => ?_) fun c2 => ?_
   · refine Ok.ob value_Text_tot fun v1 _ hv1 => Ok.ob (Ok.sm (P := fun n => n = (⟨1, 0, v1, r0, r0, [], []⟩ : Nd)) rfl) fun n1 _ hn1 => ?_
     refine Ok.bv fun _ _ => Ok.bv fun _ _ => Ok.ob value_Bool_tot fun v2 _ hv2 => Ok.ob (Ok.sm (P := fun n => n = (⟨1, 0, v2, r0, r0, [], []⟩ : Nd)) rfl) fun n2 _ hn2 => ?_
     refine Ok.bv fun z3 e3' => Ok.bv fun z4 e4 => Ok.bv fun z5 e5 => ?_
     have h3 := dv e3'
     have h4 : z4 = z3 % 7 := by rw [e4]; exact Int.tmod_eq_emod_of_nonneg h3.1
     have h5 := (wI64 e5).2 (by omega)
     refine Ok.ob (value_Fail_tot (by omega)) fun v3 _ hv3 => Ok.ob (Ok.sm (P := fun n => n = (⟨1, 0, v3, r0, r0, [], []⟩ : Nd)) rfl) fun n3 _ hn3 => ?_
     refine Ok.ob (Ok.sm (P := fun n => n = (⟨1, 0, ⟨0, 0, []⟩, r0, r0, [], []⟩ : Nd)) rfl) fun n4 _ hn4 => ?_
     refine Ok.bv fun z6 e6 => ?_
     have h6 := (wI64 e6).2 (by rw [Int.tdiv_eq_ediv_of_nonneg hc.1]; omega)
     rw [Int.tdiv_eq_ediv_of_nonneg hc.1] at h6
     refine Ok.ck (by simp only [List.length_cons, List.length_nil]; omega) (Ok.bv fun n en => Ok.sm ⟨?_, hs⟩)
     refine gelP (l := [n1, n2, n3, n4]) (P := okN (d + 1)) ?_ en (by simp only [List.length_cons, List.length_nil]; omega)
     intro x hx
     simp only [List.mem_cons, List.not_mem_nil, or_false] at hx
     rcases hx with rfl | rfl | rfl | rfl
     · rw [hn1]; exact okLit hv1.1
     · rw [hn2]; exact okLit hv2
     · rw [hn3]; exact okLit hv3.1
     · rw [hn4]; exact okLit rt0
   rw [e2, dF] at c2
   refine Ok.bv fun z3 e3' => Ok.it (fun c => ?_) fun c3 => ?_
   · refine Ok.bv fun z e => Ok.ob ref_ok fun r _ hr => Ok.ob (Ok.sm (P := fun n => n = (⟨2, 0, ⟨0, 0, []⟩, r, r0, [], []⟩ : Nd)) rfl) fun n _ hn => Ok.sm ⟨by rw [hn]; exact okCell hr, hs⟩
   rw [e3', dF] at c3
   refine Ok.bv fun z4 e4 => Ok.it (fun c => ?_) fun c4 => ?_
   · refine Ok.bv fun z e => Ok.ob ref_ok fun r _ hr => Ok.bv fun z5 e5 => Ok.bv fun z6 e6 => Ok.bv fun z7 e7' => Ok.bv fun z8 e8 => Ok.bv fun z9 e9 => ?_
     have h5 := and1 s.1
     rw [← e5] at h5
     have h6 := (wI64 e6).2 (by omega)
     have h7 := (wI64 e7').2 (by rw [Int.tdiv_eq_ediv_of_nonneg hc.1]; omega)
     rw [Int.tdiv_eq_ediv_of_nonneg hc.1] at h7
     have h8 : z8 = z7 % 3 := by rw [e8]; exact Int.tmod_eq_emod_of_nonneg (by omega)
     have h9 := (wI64 e9).2 (by omega)
     refine Ok.ob (Ok.sm (P := fun n => n = (⟨3, 0, ⟨0, 0, []⟩, r, ⟨⟨r.c.s, z6, z9⟩, r.ac, r.ar⟩, [], []⟩ : Nd)) rfl) fun n _ hn => Ok.sm ⟨?_, hs⟩
     rw [hn]
     exact ⟨⟨fun h => by simp at h, fun _ => ⟨hr.1, by dsimp only; omega, by dsimp only; omega, by dsimp only; omega, hr.2.2.1, by dsimp only; omega, by dsimp only; omega, by dsimp only; omega⟩⟩, .inr (.inr (.inl rfl))⟩
   rw [e4, dF] at c4
   have g6 : 6 ≤ q := by omega
   refine Ok.bv fun z5 e5 => Ok.it (fun c => ?_) fun c5 => ?_
   · exact Ok.bv fun z e => Ok.ob (hr g6 _ e hs) fun y _ hy => Ok.ob (Ok.sm (P := fun n => n = (⟨5, 0, ⟨0, 0, []⟩, r0, r0, [], [y.1]⟩ : Nd)) rfl) fun n _ hn => Ok.sm ⟨by rw [hn]; exact okUnary (.inl rfl) hy.1, hy.2⟩
   refine Ok.bv fun z6 e6 => Ok.it (fun c => ?_) fun c6 => ?_
   · exact Ok.bv fun z e => Ok.ob (hr g6 _ e hs) fun y _ hy => Ok.ob (Ok.sm (P := fun n => n = (⟨6, 0, ⟨0, 0, []⟩, r0, r0, [], [y.1]⟩ : Nd)) rfl) fun n _ hn => Ok.sm ⟨by rw [hn]; exact okUnary (.inr rfl) hy.1, hy.2⟩
   refine Ok.bv fun z7 e7' => Ok.it (fun c => ?_) fun c7 => ?_
   · refine Ok.bv fun z e => Ok.ob (hr g6 _ e hs) fun y _ hy => Ok.bv fun z8 e8 => Ok.bv fun z9 e9 => Ok.bv fun z10 e10 => Ok.ob (hr g6 _ e10 hy.2) fun y2 _ hy2 => ?_
     have h8 : z8 = s.1 % 11 := by rw [e8]; exact Int.tmod_eq_emod_of_nonneg hc.1
     have h9 := (wI64 e9).2 (by omega)
     exact Ok.ob (Ok.sm (P := fun n => n = (⟨7, z9, ⟨0, 0, []⟩, r0, r0, [], [y.1, y2.1]⟩ : Nd)) rfl) fun n _ hn => Ok.sm ⟨by rw [hn]; exact okBinary (by omega) hy.1 hy2.1, hy2.2⟩
   refine Ok.bv fun z8 e8 => Ok.bv fun z9 e9 => Ok.bv fun z10 e10 => Ok.bv fun J89 e89 => ?_
   have hJ89 : ∀ f : Int, 1 ≤ f ∧ f ≤ 54 → Ok (J89 f) fun r => okN (d + 1) r.1 ∧ Fs N r.2 := by
    intro f hf
    rw [e89]
    refine Ok.bv fun J91 e91 => ?_
    have hJ91 : ∀ u, Fs N u.1 → u.2.length ≤ 9 → (f ≤ 5 → 1 ≤ u.2.length) → (f = 1 ∨ f = 2 → 2 ≤ u.2.length) → (∀ x ∈ u.2, okN d x) → Ok (J91 u) fun r => okN (d + 1) r.1 ∧ Fs N r.2 := by
     intro u u1 u2 u3 u4 u5
     rw [e91]
     dsimp only
     rw [apply_eq _ _ (by omega)]
     exact Ok.os fun n en => Ok.sm ⟨by rw [en]; exact okApply hf u2 u3 u4 u5, u1⟩
    clear e91
    refine Ok.bv fun B97 e97 => ?_
    refine Ok.lp (fun u => Fs N u.1 ∧ u.2.length ≤ 9 ∧ ∀ x ∈ u.2, okN d x) (fun u => 9 - u.2.length) ⟨hs, by simp, fun x hx => by cases hx⟩ (by simp) ?_
    rintro u ⟨u1, u2, u3⟩ next hn
    rw [e97]
    obtain ⟨b, hb, hbt⟩ := fits_tot hf u2
    refine Ok.bv fun y1 f1 => ?_
    have hF : Ok (if y1 = true then tree_Fits f (u.2.length : Int) else some default) fun r => y1 = true → r = b := Ok.it (fun _ => ⟨b, hb, fun _ => rfl⟩) fun g => Ok.sm fun g' => by rw [g] at g'; cases g'
    refine Ok.ob hF fun y2 _ f2 => Ok.bv fun y3 f3 => Ok.bv fun y4 f4 => Ok.it (fun c => ?_) fun c => ?_
    · rw [f4, bA] at c
      rw [f1, dT] at c
      refine Ok.bv fun z e => Ok.ob (hr g6 _ e u1) fun y _ hy => Ok.ck (by simp only [List.length_cons, List.length_nil]; omega) (Ok.bv fun w ew => ?_)
      refine hn _ ⟨hy.2, by dsimp only; rw [ew]; simp; omega, ?_⟩ ?_
      · dsimp only
        rw [ew]
        exact all_snoc u3 hy.1
      · dsimp only
        rw [ew]
        simp
        omega
    · have hc9 : u.2.length = 9 ∨ b = true := by
       rcases Nat.lt_or_ge u.2.length 9 with g | g
       · right
         have e1' : y1 = true := by rw [f1, dT]; omega
         have e2' := f2 e1'
         rw [f4, f3, e1', e2'] at c
         simpa using c
       · left; omega
      refine hJ91 _ u1 u2 (fun g => ?_) (fun g => ?_) u3
      · dsimp only
        rcases hc9 with h9 | h9
        · omega
        · exact (hbt h9).1 g
      · dsimp only
        rcases hc9 with h9 | h9
        · omega
        · exact (hbt h9).2 g
   clear e89
   have h8 := (wI64 e8).2 (by rw [Int.tdiv_eq_ediv_of_nonneg hc.1]; omega)
   rw [Int.tdiv_eq_ediv_of_nonneg hc.1] at h8
   have h9 : z9 = z8 % 54 := by rw [e9]; exact Int.tmod_eq_emod_of_nonneg (by omega)
   have h10 := (wI64 e10).2 (by omega)
   refine Ok.bv fun z11 e11 => Ok.it (fun c => ?_) fun c => hJ89 _ (by omega)
   rw [e11, dT] at c
   refine Ok.ck (by omega) (Ok.bv fun y1 f1 => Ok.bv fun y2 f2 => Ok.bv fun y3 f3 => Ok.bv fun y4 f4 => ?_)
   have g1 := gelP hs.by_ f1 (by omega)
   have g2 := (wI64 f2).2 (by omega)
   have g3 : y3 = y2 % 54 := by rw [f3]; exact Int.tmod_eq_emod_of_nonneg (by omega)
   have g4 := (wI64 f4).2 (by omega)
   exact hJ89 _ (by omega)
  clear e7
  have h30 : z30 = s.1 % 16 := by rw [e30]; exact Int.tmod_eq_emod_of_nonneg hc.1
  refine Ok.bv fun z1 e1 => Ok.bv fun z2 e2 => Ok.bv fun z3 e3' => Ok.it (fun c => ?_) fun c => ?_
  · refine Ok.bv fun z4 e4 => ?_
    have h4 : z4 = s.1 % 6 := by rw [e4]; exact Int.tmod_eq_emod_of_nonneg hc.1
    exact hJ7 _ (by omega) fun g => by omega
  · rw [e3', Bool.or_eq_false_iff, e1, dF] at c
    exact hJ7 _ (by omega) fun g => by omega
 clear e3
 refine Ok.bv fun z1 e1 => Ok.it (fun c => ?_) fun c => hJ3 _ (by simp) hx
 rw [e1, dT] at c
 refine Ok.ck (by omega) (Ok.bv fun y1 f1 => Ok.bv fun y2 f2 => Ok.ck (by omega) (Ok.bv fun w ew => ?_))
 have g1 := gelP hx.by_ f1 (by omega)
 have g2 := (wI64 f2).2 (by omega)
 refine hJ3 _ (by dsimp only; omega) ⟨?_, ?_⟩
 · have := cutL_len x0 1 (x0.length : Int) (by omega)
   have := hx.len
   dsimp only
   rw [ew]
   omega
 · dsimp only
   rw [ew]
   exact all_cut hx.by_ _ _
theorem formula_ok {N : Nat} (hN : N ≤ 1000) : ∀ (d k : Nat) (x0 : List Int), d ≤ 1000 → d < k → Fs N x0 → Ok (reckonerlaw05_Seed_Formula k x0 (d : Int)) fun r => okN (d + 1) r.1 ∧ Fs N r.2
 | _, 0, _, _, hk, _ => absurd hk (by omega)
 | 0, k + 1, x0, hd, hk, hx => formB_ok hd hN hx fun l h1 _ => absurd h1 (by omega)
 | d + 1, k + 1, x0, hd, hk, hx => formB_ok hd hN hx fun l h1 hl => by
  have := formula_ok hN d k l (by omega) (by omega) hl
  rw [show ((d + 1 : Nat) : Int) - 1 = (d : Int) by omega]
  exact this
end Go.Sp
end
section
namespace Go.Sp
open Go.Stp Go.ValP
theorem okP_zero : okP zeroPl := ⟨zeroPl_len, fun v hv => by
 have := List.eq_of_mem_replicate hv
 rw [this]
 exact rt0⟩
theorem okP_set {p : List V} (h : okP p) {i : Nat} {v : V} (hv : Rt v) : okP (p.set i v) := ⟨by rw [List.length_set]; exact h.1, fun x hx => by
 rcases List.mem_or_eq_of_mem_set hx with g | g
 · exact h.2 x g
 · rw [g]; exact hv⟩
theorem place_ok {l : List V} (hl : l.length ≤ 1000) (hn : ∀ v ∈ l, -9223372036854775808 ≤ v.n ∧ v.n ≤ 9223372036854775807) : Ok (reckonerlaw13_Place l) okP := by
 unfold reckonerlaw13_Place
 refine Ok.bv fun J3 e3 => Ok.bv fun B5 e5 => ?_
 refine Ok.lp (fun s => ∃ i : Nat, s.1 = (i : Int) ∧ i ≤ l.length ∧ okP s.2) (fun s => l.length - s.1.toNat) ⟨0, rfl, Nat.zero_le _, okP_zero⟩ (by simp; omega) ?_
 rintro s ⟨i, h1, h2, h3⟩ next hnx
 rw [e5]
 refine Ok.bv fun z ez => Ok.it (fun c => ?_) fun c => by rw [e3]; exact Ok.sm h3
 rw [ez, h1, dT] at c
 refine Ok.ck (by omega) (Ok.bv fun v ev => Ok.bv fun z1 e1 => Ok.bv fun z2 e2 => Ok.bv fun z3 e3' => ?_)
 have hv := gelP hn ev (by omega)
 have hR : Ok (if z3 = true then value_Right v else some default) fun b => b = true → z3 = true → Rt v := Ok.it (fun _ => (value_Right_inv hv).mono fun _ h g _ => h g) fun hz => Ok.sm fun _ h => absurd h (by simp [hz])
 refine Ok.ob hR fun b eb hb => Ok.bv fun z4 e4 => Ok.it (fun c4 => ?_) fun c4 => ?_
 · rw [e4, bA] at c4
   have hr := hb c4.2 c4.1
   have c5 := c4.1
   rw [e3', bA, e1, h1, dT] at c5
   refine Ok.bv fun z5 e5' => Ok.bv fun z6 e6 => ?_
   have g5 := and1 s.1
   rw [← e5'] at g5
   rw [h1, Int.tdiv_eq_ediv_of_nonneg (by omega)] at e6
   have g6 := (wI64 e6).2 (by omega)
   refine Ok.ck (by omega) (Ok.ck (by omega) (Ok.bv fun p ep => Ok.bv fun z7 e7 => ?_))
   rw [h1] at e7
   have e := succ64 e7 (by omega)
   exact hnx _ ⟨i + 1, e, by omega, by dsimp only; rw [ep]; exact okP_set h3 hr⟩ (by simp only [e, h1]; omega)
 · refine Ok.bv fun z7 e7 => ?_
   rw [h1] at e7
   have e := succ64 e7 (by omega)
   exact hnx _ ⟨i + 1, e, by omega, h3⟩ (by simp only [e, h1]; omega)
theorem cell_eq (a b : C) : (decide (a.s = b.s) && (decide (a.c = b.c) && decide (a.r = b.r))) = decide (a = b) := by
 rw [Bool.eq_iff_iff]
 simp only [bA, dT]
 cases a; cases b
 simp
theorem asked_ok {r : Rs} {c : C} (hl : r.l.length ≤ 100000000) : Ok (reckonerlaw13_asked r c) fun b => b = true ↔ c ∈ r.l := by
 unfold reckonerlaw13_asked
 refine Ok.bv fun J4 e4 => Ok.bv fun B6 e6 => ?_
 refine Ok.lp (fun s => ∃ i : Nat, s = (i : Int) ∧ i ≤ r.l.length ∧ ∀ j : Nat, j < i → r.l[j]? ≠ some c) (fun s => r.l.length - s.toNat) ⟨0, rfl, Nat.zero_le _, fun j hj => absurd hj (by omega)⟩ (by simp; omega) ?_
 rintro s ⟨i, h1, h2, h3⟩ next hnx
 rw [e6]
 refine Ok.bv fun z ez => Ok.it (fun c' => ?_) fun c' => ?_
 · rw [ez, h1, dT] at c'
   refine Ok.ck (by omega) (Ok.bv fun x ex => Ok.bv fun z1 e1 => ?_)
   rw [h1] at ex
   have hx : r.l[i]? = some x := by
    have := gel_some (l := r.l) (i := (i : Int)) (by omega)
    rw [← ex] at this
    simpa using this
   rw [cell_eq] at e1
   refine Ok.it (fun g => Ok.sm ⟨fun _ => ?_, fun _ => rfl⟩) fun g => Ok.bv fun z2 e2 => ?_
   · rw [e1, dT] at g
     rw [← g]
     exact List.mem_of_getElem? hx
   · rw [e1, dF] at g
     rw [h1] at e2
     have e : z2 = ((i + 1 : Nat) : Int) := by
      have := (wI64 e2).2 (by omega)
      rw [this]
      simp
     refine hnx _ ⟨i + 1, e, by omega, fun j hj => ?_⟩ (by simp only [e, h1]; omega)
     rcases Nat.lt_or_ge j i with k | k
     · exact h3 j k
     · obtain rfl : j = i := by omega
       rw [hx]
       exact fun k => g (Option.some.inj k)
 · rw [ez, h1, dF] at c'
   rw [e4]
   refine Ok.sm ⟨fun k => absurd k Bool.false_ne_true, fun k => ?_⟩
   obtain ⟨j, hj⟩ := List.getElem?_of_mem k
   have hj' := (List.getElem?_eq_some_iff.1 hj).1
   exact absurd hj (h3 j (by omega))
theorem ks_srt {m : List (C × Bool)} {c : C} : c ∈ srtK m ↔ c ∈ ks m := (cellSort_perm _).mem_iff
theorem EvalOrigins_true (x0 : List Int) (x1 : List V) (hb : ∀ b ∈ x0, 0 ≤ b ∧ b ≤ 255) (hv : ∀ v ∈ x1, -9223372036854775808 ≤ v.n ∧ v.n ≤ 9223372036854775807) : reckonerlaw13_EvalOrigins x0 x1 = some true := by
 have key : Ok (reckonerlaw13_EvalOrigins x0 x1) (fun v => v = true) := by
  unfold reckonerlaw13_EvalOrigins
  rw [fit_true]
  refine Ok.os fun y1 e1 => Ok.bv fun z1 ez1 => Ok.it (fun h => by rw [ez1, e1] at h; cases h) fun _ => ?_
  refine Ok.bv fun z2 e2 => Ok.bv fun z3 e3 => Ok.bv fun z4 e4 => Ok.it (fun _ => Ok.sm rfl) fun c => ?_
  rw [e4, Bool.or_eq_false_iff, e2, e3, dF, dF] at c
  refine Ok.ob (formula_ok (N := 100) (by omega) 5 KK x0 (by omega) (by unfold KK; omega) ⟨by omega, hb⟩) fun y ey hy => ?_
  refine Ok.ob (place_ok (l := x1) (by omega) hv) fun p ep hp => ?_
  obtain ⟨r, hr, _, hE⟩ := Eval_tot (self := ⟨2, 9, 9⟩) hp (d := 6) (by omega) hy.1
  rw [hE]
  refine Ok.os fun q eq => Ok.bv fun z5 e5 => Ok.it (fun _ => Ok.sm rfl) fun c5 => ?_
  have hk : r.1.v.k = 4 := by
   rw [e5, eq] at c5
   simpa using c5
  rw [if_pos hk] at eq
  have hl := hr.gr.len
  have h9 : (9 : Nat) ^ 6 = 531441 := by decide
  simp only [List.length_nil] at hl
  have hql : q.l.length ≤ 100000000 := by rw [eq]; dsimp only; rw [srtK_len]; omega
  have ho := hr.org hk
  refine Ok.bv fun z6 e6 => ?_
  have g6 : z6 = decide (q.c = ⟨2, 9, 9⟩) := by rw [e6]; exact cell_eq q.c ⟨2, 9, 9⟩
  have hA : Ok (if (!z6) = true then reckonerlaw13_asked q q.c else some default) fun b => z6 = false → b = true := by
   refine Ok.it (fun g => (asked_ok hql).mono fun b hb _ => hb.2 ?_) fun g => Ok.sm fun g' => by rw [g'] at g; cases g
   have g : z6 = false := by simpa using g
   rw [g6, dF] at g
   rw [eq] at g ⊢
   dsimp only at g ⊢
   exact ks_srt.2 (ho.resolve_left g).1
  refine Ok.ob hA fun b eb hb => ?_
  have hP : Ok (if (!z6 && b) = true then reckonerref13_Place_At p q.c else some default) fun v => z6 = false → v = q.v := by
   refine Ok.it (fun g => ?_) fun g => Ok.sm fun g' => by rw [g', hb g'] at g; cases g
   have g : z6 = false := by
    rw [bA] at g
    simpa using g.1
   rw [g6, dF] at g
   have := (ho.resolve_left (by rw [eq] at g; exact g)).2
   rw [eq]
   exact ⟨_, this, fun _ => rfl⟩
  refine Ok.ob hP fun v ev hv => Ok.bv fun z7 e7 => Ok.bv fun z8 e8 => Ok.bv fun z9 e9 => Ok.sm ?_
  rw [e9, e8]
  cases h6 : z6 with
  | true => rfl
  | false => rw [hb h6, e7, hv h6]; simp
 obtain ⟨v, h, rfl⟩ := key
 exact h
end Go.Sp
end
