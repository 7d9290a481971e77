/- What functions of the program compute, as partial functions: printed off the program's form (no proof here). -/
import Derived.Test.YtcecjdnkcbfhlaaGreatDoorSpE
set_option linter.unusedSimpArgs false
set_option linter.unusedVariables false
set_option linter.unusedSectionVars false
namespace Go.Sp
open Go.Stp Go.ValP
def eval_Eval (x0 : Nd) (x1 : C) (x2 : List V) : Option (Rs) :=
 obind (eval_run_eval KK (⟨x2, x1⟩ : Rn) x0 ([] : List (C × Bool))) fun y18_7 =>
 bindv ((fun s12 =>
  chk (y18_7.2.length < 4611686018427387904 ∧ y18_7.2.length * 24 ≤ 140737488355328) <|
  some (⟨y18_7.1.v, (⟨s12.1, s12.2.1, s12.2.2⟩ : C), (srtK y18_7.2)⟩ : Rs)
  ) : (Int × Int × Int) → Option (Rs)) fun J12 =>
 bindv (decide (y18_7.1.v.k = 4) : Bool) fun z25_20 =>
 if z25_20 = true then (
  J12 (y18_7.1.c.s, y18_7.1.c.c, y18_7.1.c.r)
 ) else (
  J12 (0, 0, 0)
 )
end Go.Sp
