/- What the functions of package value compute, in plain words. -/
import Derived.Test.YtlpfcclecmalhaaDoorStpG
import Derived.Lib.Bytealg
set_option linter.unusedSimpArgs false
set_option linter.unusedVariables false
set_option linter.unusedSectionVars false
namespace Go.ValP
open Go.Stp

/-- A value. -/
structure V where
  k : Int
  n : Int
  s : List UInt8
deriving Inhabited, DecidableEq
abbrev vL (v : V) : List Value := [.int .i64 v.k, .int .i64 v.n, S v.s]
abbrev vV (v : V) : Value := .agg #[.int .i64 v.k, .int .i64 v.n, S v.s]
def numV (n : Int) : V := ⟨1, n, []⟩
def failV (c : Int) : V := ⟨4, c, []⟩
def boolV (b : Bool) : V := ⟨3, if b then 1 else 0, []⟩
def textV (s : List UInt8) : V := if 64 < (s.length : Int) then failV 2 else ⟨2, 0, s⟩
def rightV (v : V) : Bool :=
  if v.k = 0 then decide (v.n = 0) && decide (v.s = []) else if v.k = 1 then !decide (v.n = -9223372036854775808) && decide (v.s = []) else if v.k = 2 then decide (v.n = 0) && decide ((v.s.length : Int) ≤ 64)
  else if v.k = 3 then decide (bits .and .i64 v.n 1 = v.n) && decide (v.s = []) else if v.k = 4 then (decide (1 ≤ v.n) && decide (v.n ≤ 7)) && decide (v.s = []) else false
def goodV (v : V) : Bool := (decide ((v.s.length : Int) ≤ 64) && rightV v) && !decide (v.k = 4)
def likeV (a b : V) : V := if a.k ≠ 0 then a else if b.k = 2 then textV [] else if b.k = 3 then boolV false else numV 0
def cmpN (a b : V) : Int := if a.k ≠ b.k then a.k - b.k else if a.k = 2 then Lib.compareBytes a.s b.s else if a.n < b.n then -1 else if b.n < a.n then 1 else 0
def cmpV (a b : V) : Int := cmpN (likeV a b) (likeV b a)
/-- What a comparison says (6 =, 7 <>, 8 <, 9 <=, 10 >, 11 >=). -/
def cmpAt (op c : Int) : Bool := if op = 6 then decide (c = 0) else if op = 7 then !decide (c = 0) else if op = 8 then decide (c < 0) else if op = 9 then decide (c ≤ 0) else if op = 10 then decide (0 < c) else decide (0 ≤ c)

theorem cmp_get (op c : Int) (h : 6 ≤ op ∧ op ≤ 11) : [Value.bool (decide (c = 0)), .bool (!decide (c = 0)), .bool (decide (c < 0)), .bool (decide (c ≤ 0)), .bool (decide (0 < c)), .bool (decide (0 ≤ c))][(op - 6).toNat]? = some (.bool (cmpAt op c)) := by
  obtain rfl | rfl | rfl | rfl | rfl | rfl : op = 6 ∨ op = 7 ∨ op = 8 ∨ op = 9 ∨ op = 10 ∨ op = 11 := by omega
  all_goals rfl

theorem cmpB_cons (a b : UInt8) (as bs : List UInt8) : Lib.compareBytes (a :: as) (b :: bs) = if a.toNat < b.toNat then -1 else if b.toNat < a.toNat then 1 else Lib.compareBytes as bs := rfl
theorem cmpB_flip : ∀ (a b : List UInt8), Lib.compareBytes b a = -Lib.compareBytes a b
  | [], [] => rfl
  | [], _ :: _ => rfl
  | _ :: _, [] => rfl
  | a :: as, b :: bs => by
    rw [cmpB_cons, cmpB_cons]
    by_cases h1 : a.toNat < b.toNat
    · have h2 : ¬ b.toNat < a.toNat := by omega
      simp only [h1, h2, if_true, if_false]
      rfl
    · by_cases h2 : b.toNat < a.toNat
      · simp only [h1, h2, if_true, if_false]
      · simp only [h1, h2, if_false]
        exact cmpB_flip as bs
theorem cmpB_bd : ∀ (a b : List UInt8), -1 ≤ Lib.compareBytes a b ∧ Lib.compareBytes a b ≤ 1
  | [], [] => by decide
  | [], _ :: _ => (by decide : (-1 : Int) ≤ -1 ∧ (-1 : Int) ≤ 1)
  | _ :: _, [] => (by decide : (-1 : Int) ≤ 1 ∧ (1 : Int) ≤ 1)
  | a :: as, b :: bs => by
    rw [cmpB_cons]
    split
    · decide
    · split
      · decide
      · exact cmpB_bd as bs
theorem cmpN_flip (a b : V) : cmpN b a = -cmpN a b := by
  unfold cmpN
  by_cases h : a.k = b.k
  · simp only [h, ne_eq, not_true_eq_false, if_false]
    by_cases h2 : b.k = 2
    · simp only [h2, if_true]
      exact cmpB_flip _ _
    · simp only [h2, if_false]
      by_cases h3 : a.n < b.n
      · have h4 : ¬ b.n < a.n := by omega
        simp only [h3, h4, if_true, if_false]
        rfl
      · by_cases h4 : b.n < a.n
        · simp only [h3, h4, if_true, if_false]
        · simp only [h3, h4, if_false]
          rfl
  · have h' : ¬ b.k = a.k := fun e => h e.symm
    simp only [h, h', ne_eq, not_false_eq_true, if_true]
    omega
theorem cmpV_flip (a b : V) : cmpV b a = -cmpV a b := cmpN_flip _ _
theorem cmpV_self (a : V) : cmpV a a = 0 := by
  have := cmpV_flip a a
  omega
def rk (v : V) : Prop := 0 ≤ v.k ∧ v.k ≤ 4
theorem good_rk {v : V} (h : goodV v = true) : 0 ≤ v.k ∧ v.k ≤ 3 := by
  unfold goodV rightV at h
  simp only [Bool.and_eq_true, Bool.not_eq_true', decide_eq_false_iff_not] at h
  obtain ⟨⟨_, h1⟩, h2⟩ := h
  split at h1
  · omega
  · split at h1
    · omega
    · split at h1
      · omega
      · split at h1
        · omega
        · first | omega | exact absurd h1 (by decide) | (split at h1; · omega; · cases h1)
theorem like_rk {a b : V} (ha : 0 ≤ a.k ∧ a.k ≤ 4) : 0 ≤ (likeV a b).k ∧ (likeV a b).k ≤ 4 := by
  unfold likeV
  split
  · exact ha
  · split
    · exact ⟨by decide, by decide⟩
    · split
      · exact ⟨by decide, by decide⟩
      · exact ⟨by decide, by decide⟩
theorem wrap_u64 (z : Int) : IntKind.u64.wrap z = z % 18446744073709551616 := by
  simp [IntKind.wrap, IntKind.bits, IntKind.signed]
def absV (a : Int) : Int := if a < 0 then -a else a
/-- How far num.Print is with c times a million (c is 0 or 1): the round, what is left, 'tail', the bytes so far. -/
def PSt (c k n : Int) (tl : Bool) (out : List UInt8) : Prop :=
  (tl = true ∧ out = [] ∧ ((k = 0 ∧ n = c * 1000000) ∨ (k = 1 ∧ n = c * 100000) ∨ (k = 2 ∧ n = c * 10000) ∨ (k = 3 ∧ n = c * 1000) ∨ (k = 4 ∧ n = c * 100) ∨ (k = 5 ∧ n = c * 10) ∨ (k = 6 ∧ n = c))) ∨
  (tl = false ∧ out = [UInt8.ofNat (48 + c).toNat] ∧ k = 7 ∧ n = 0)
theorem PSt.bd {c k n : Int} {tl : Bool} {out : List UInt8} (hc : 0 ≤ c ∧ c ≤ 1) (h : PSt c k n tl out) : 0 ≤ k ∧ k ≤ 7 ∧ 0 ≤ n ∧ n ≤ 1000000 ∧ out.length ≤ 1 := by
  rcases h with ⟨_, rfl, h⟩ | ⟨_, rfl, h1, h2⟩
  · have : ([] : List UInt8).length = 0 := rfl
    omega
  · have : [UInt8.ofNat (48 + c).toNat].length = 1 := rfl
    omega
theorem PSt.skip {c k n : Int} {tl : Bool} {out : List UInt8} (hc : 0 ≤ c ∧ c ≤ 1) (h : PSt c k n tl out) (hk : ¬ k = 6) (h7 : k < 7 ∨ 0 < n) : tl = true ∧ n.tmod 10 = 0 ∧ PSt c (k + 1) (n.tdiv 10) tl out := by
  rcases h with ⟨h1, h2, h⟩ | ⟨_, _, h1, h2⟩
  · obtain rfl | rfl : c = 0 ∨ c = 1 := by omega
    all_goals rcases h with ⟨rfl, rfl⟩ | ⟨rfl, rfl⟩ | ⟨rfl, rfl⟩ | ⟨rfl, rfl⟩ | ⟨rfl, rfl⟩ | ⟨rfl, rfl⟩ | ⟨rfl, rfl⟩
    all_goals first | exact absurd rfl hk | exact ⟨h1, by decide, .inl ⟨h1, h2, by decide⟩⟩
  · omega
theorem u8_48 (c : Int) (h : 0 ≤ c ∧ c ≤ 9) : ((UInt8.ofNat (48 + c).toNat).toNat : Int) = 48 + c := by
  simp
  omega
theorem PSt.last {c k n : Int} {tl : Bool} {out : List UInt8} (hc : 0 ≤ c ∧ c ≤ 1) (h : PSt c k n tl out) (hk : k = 6) : tl = true ∧ out = [] ∧ n.tmod 10 = c ∧ PSt c (k + 1) (n.tdiv 10) false [UInt8.ofNat (48 + c).toNat] := by
  subst hk
  rcases h with ⟨h1, h2, h⟩ | ⟨_, _, h1, h2⟩
  · have hn : n = c := by
      rcases h with h | h | h | h | h | h | h
      all_goals omega
    subst hn
    obtain rfl | rfl : n = 0 ∨ n = 1 := by omega
    · exact ⟨h1, h2, by decide, .inr ⟨rfl, rfl, by decide, by decide⟩⟩
    · exact ⟨h1, h2, by decide, .inr ⟨rfl, rfl, by decide, by decide⟩⟩
  · omega
theorem PSt.stop {c k n : Int} {tl : Bool} {out : List UInt8} (hc : 0 ≤ c ∧ c ≤ 1) (h : PSt c k n tl out) (hs : ¬ (k < 7 ∨ 0 < n)) : out = [UInt8.ofNat (48 + c).toNat] := by
  rcases h with ⟨_, _, h⟩ | ⟨_, h, _⟩
  · omega
  · exact h
def opsC : List Int := [8, 6, 10]
def cntA (i c : Int) : Int := (((opsC.take i.toNat).filter fun op => cmpAt op c).length : Int)
theorem ops_bd (i : Int) (h : 0 ≤ i ∧ i < 3) : 6 ≤ opsC.getD i.toNat 0 ∧ opsC.getD i.toNat 0 ≤ 11 := by
  obtain rfl | rfl | rfl : i = 0 ∨ i = 1 ∨ i = 2 := by omega
  all_goals decide
theorem ops_get (i : Int) (h : 0 ≤ i ∧ i < 3) : opsC[i.toNat]? = some (opsC.getD i.toNat 0) := by
  obtain rfl | rfl | rfl : i = 0 ∨ i = 1 ∨ i = 2 := by omega
  all_goals rfl
theorem cnt_step (i c : Int) (h : 0 ≤ i ∧ i < 3) : cntA (i + 1) c = cntA i c + (if cmpAt (opsC.getD i.toNat 0) c = true then 1 else 0) := by
  have e : (i + 1).toNat = i.toNat + 1 := by omega
  unfold cntA
  rw [e, List.take_add_one, ops_get i h, List.filter_append, List.length_append]
  generalize opsC.getD i.toNat 0 = o
  by_cases hb : cmpAt o c = true
  · simp [hb, List.filter]
  · simp [hb, List.filter]
theorem cnt_bd (i c : Int) (h : 0 ≤ i ∧ i ≤ 3) : 0 ≤ cntA i c ∧ cntA i c ≤ 3 := by
  unfold cntA
  have h1 := List.length_filter_le (fun op => cmpAt op c) (opsC.take i.toNat)
  have h2 : (opsC.take i.toNat).length ≤ 3 := by
    rw [List.length_take]
    show min i.toNat 3 ≤ 3
    omega
  omega
theorem cnt_all (c : Int) : cntA 3 c = 1 := by
  have h0 : cntA 0 c = 0 := rfl
  have h1 := cnt_step 0 c (by omega)
  have h2 := cnt_step 1 c (by omega)
  have h3 := cnt_step 2 c (by omega)
  have g0 : opsC.getD (0 : Int).toNat 0 = 8 := rfl
  have g1 : opsC.getD (1 : Int).toNat 0 = 6 := rfl
  have g2 : opsC.getD (2 : Int).toNat 0 = 10 := rfl
  rw [g0] at h1
  rw [g1] at h2
  rw [g2] at h3
  have e8 : (cmpAt 8 c = true) = (c < 0) := by simp [cmpAt]
  have e6 : (cmpAt 6 c = true) = (c = 0) := by simp [cmpAt]
  have e10 : (cmpAt 10 c = true) = (0 < c) := by simp [cmpAt]
  simp only [e8, e6, e10] at h1 h2 h3
  have a1 : (0 : Int) + 1 = 1 := rfl
  have a2 : (1 : Int) + 1 = 2 := rfl
  have a3 : (2 : Int) + 1 = 3 := rfl
  rw [a1] at h1
  rw [a2] at h2
  rw [a3] at h3
  rw [h3, h2, h1, h0]
  split <;> split <;> split <;> omega
theorem law_cmp (c : Int) : ((((decide (cmpAt 8 c = cmpAt 10 (-c)) && (!decide (cmpAt 7 c = cmpAt 6 c))) && (!decide (cmpAt 9 c = cmpAt 10 c))) && (!decide (cmpAt 11 c = cmpAt 8 c)))) = true := by
  rcases (show c < 0 ∨ c = 0 ∨ 0 < c by omega) with h | h | h
  · simp [cmpAt, h, show ¬ c = 0 by omega, show ¬ 0 < c by omega, show c ≤ 0 by omega, show ¬ 0 ≤ c by omega]
  · subst h
    decide
  · simp [cmpAt, h, show ¬ c = 0 by omega, show ¬ c < 0 by omega, show 0 ≤ c by omega, show ¬ c ≤ 0 by omega]
end Go.ValP
