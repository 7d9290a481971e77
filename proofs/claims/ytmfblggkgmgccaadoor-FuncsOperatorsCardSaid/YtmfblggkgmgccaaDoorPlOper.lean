/- The law FuncsOperators, in plain words. -/
import Derived.Test.YtmfblggkgmgccaaDoorPlVal
set_option linter.unusedSimpArgs false
set_option linter.unusedVariables false
set_option linter.unusedSectionVars false
set_option linter.unusedSimpArgs false
namespace Go.Sp
open Go.Stp Go.ValP
theorem fit_true : reckonerlaw12_fit = some true := by decide +kernel
theorem os_eq {α β : Type} {x : Option α} {v : α} {f : α → Option β} (h : x = some v) : obind x f = f v := by rw [h]; rfl
theorem ite_tt {α : Type} {A B : α} : (if true = true then A else B) = A := rfl
theorem ite_ff {α : Type} {A B : α} : (if false = true then A else B) = B := rfl
set_option maxHeartbeats 2000000 in
theorem law_operators (op : Int) (x y : V) (ho : -9223372036854775808 ≤ op ∧ op ≤ 9223372036854775807) (hx : -9223372036854775808 ≤ x.n ∧ x.n ≤ 9223372036854775807) (hy : -9223372036854775808 ≤ y.n ∧ y.n ≤ 9223372036854775807) :
    reckonerlaw12_FuncsOperators op x y = some true := by
  obtain ⟨g1, eg1, hg1⟩ := good_gd hx
  obtain ⟨g2, eg2, hg2⟩ := good_gd hy
  cases g1 with
  | false => simp [reckonerlaw12_FuncsOperators, fit_true, eg1, bindv, obind]
  | true =>
  cases g2 with
  | false => simp [reckonerlaw12_FuncsOperators, fit_true, eg1, eg2, bindv, obind]
  | true =>
  have gx := hg1 rfl
  have gy := hg2 rfl
  obtain ⟨c, ec, _⟩ := value_Compare_tot x y
  obtain ⟨sx, esx, hsx⟩ := value_Show_tot gx hx
  obtain ⟨sy, esy, hsy⟩ := value_Show_tot gy hy
  obtain ⟨a, ea, ha⟩ := value_ToNum_tot gx
  obtain ⟨b, eb, hb⟩ := value_ToNum_tot gy
  have t1 := tmod_bd op (c := 11) (by decide)
  have w1 : IntKind.i64.wrap (op.tmod 11 + 11) = op.tmod 11 + 11 := wi (by omega)
  have t2 := tmod_bd (op.tmod 11 + 11) (c := 11) (by decide)
  have w2 : IntKind.i64.wrap ((op.tmod 11 + 11).tmod 11 + 1) = (op.tmod 11 + 11).tmod 11 + 1 := wi (by omega)
  unfold reckonerlaw12_FuncsOperators
  rw [os_eq fit_true]
  simp only [bindv, Bool.not_true, Bool.false_eq_true, if_false, if_true, reduceIte, os_eq eg1, Bool.not_false, os_eq eg2, Bool.or_false, w1, w2]
  have hop : 1 ≤ (op.tmod 11 + 11).tmod 11 + 1 ∧ (op.tmod 11 + 11).tmod 11 + 1 ≤ 11 := by omega
  generalize (op.tmod 11 + 11).tmod 11 + 1 = o at hop ⊢
  clear t1 w1 t2 w2
  by_cases h6 : 6 ≤ o
  · have : o = 6 ∨ o = 7 ∨ o = 8 ∨ o = 9 ∨ o = 10 ∨ o = 11 := by omega
    rcases this with h | h | h | h | h | h <;> subst h <;> simp [funcs_Binary, bindv, chk, obind, ec, value_Bool_eq, gel, IntKind.wrap, IntKind.bits, IntKind.signed]
  · by_cases h5 : o = 5
    · subst h5
      have hl : sx.length + sy.length ≤ 9223372036854775807 := by omega
      simp [funcs_Binary, bindv, chk, obind, esx, esy, hl, value_Text_eq]
    · have h6' : decide (6 ≤ o) = false := decide_eq_false h6
      have h5' : decide (o = 5) = false := decide_eq_false h5
      simp only [funcs_Binary, bindv, h6', h5', Bool.false_eq_true, if_false, os_eq ea, os_eq eb]
      rcases ha with ha | ⟨ka, na⟩
      · subst ha
        simp [obind, value_Fail]
      · rcases hb with hb | ⟨kb, nb⟩
        · subst hb
          simp [obind, value_Fail, ka]
        · simp only [ka, kb]
          obtain ⟨r1, e1, _⟩ := num_Add_tot a.n b.n
          obtain ⟨r2, e2, _⟩ := num_Sub_tot a.n b.n
          obtain ⟨r3, e3, _⟩ := num_Mul_tot (x := a.n) (y := b.n) (by omega) (by omega)
          obtain ⟨r4, e4, _⟩ := num_Quo_tot (x := a.n) (y := b.n) (by omega) (by omega)
          obtain ⟨r5, e5, _⟩ := num_Quo_tot (x := a.n) (y := 100000000) (by omega) (by omega)
          have : o = 1 ∨ o = 2 ∨ o = 3 ∨ o = 4 := by omega
          rcases this with h | h | h | h <;> subst h
          · simp [obind, e1, e2, e3, e4, e5, value_Made_eq, funcs_Unary, bindv, ea, ka, value_Num]
          · simp [obind, e1, e2, e3, e4, e5, value_Made_eq, funcs_Unary, bindv, ea, ka, value_Num]
          · simp [obind, e1, e2, e3, e4, e5, value_Made_eq, funcs_Unary, bindv, ea, ka, value_Num]
          · by_cases hb0 : b.n = 0
            · have hd := decide_eq_true hb0
              clear hb0
              simp only [hd]
              simp [obind, e1, e2, e3, e4, e5, value_Made_eq, funcs_Unary, bindv, ea, ka, value_Num, value_Fail]
            · simp [obind, e1, e2, e3, e4, e5, value_Made_eq, funcs_Unary, bindv, ea, ka, value_Num, value_Fail, hb0]
end Go.Sp
