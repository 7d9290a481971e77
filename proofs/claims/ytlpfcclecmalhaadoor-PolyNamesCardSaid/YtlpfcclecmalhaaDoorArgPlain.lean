/- Arguments of functions: how they lie in memory. -/
import Derived.Test.YtlpfcclecmalhaaDoorValPlain
import Derived.Test.YtlpfcclecmalhaaDoorStpP
set_option linter.unusedSimpArgs false
set_option linter.unusedVariables false
set_option linter.unusedSectionVars false
namespace Go.ValP
open Go.Stp
structure Arg where
  area : Bool
  cols : Int
  l : List V
deriving Inhabited
def argEnc : Enc Arg where
  sz := 3
  rel Z x cs := ∃ sv, cs = [.bool x.area, .int .i64 x.cols, sv] ∧ RdZ Z sv 3 vL x.l
  mono hz := fun ⟨sv, h1, h2⟩ => ⟨sv, h1, h2.subC hz⟩
  len := fun ⟨sv, h1, _⟩ => by rw [h1]; rfl
  one := fun ⟨sv, h1, h2⟩ => by rw [h1]; simp only [allOne, h2.one]; rfl
theorem argEnc_dflt {Z : FZ} : argEnc.rel Z default [.bool false, .int .i64 0, .slice none 0 0] := ⟨_, rfl, RdZ.nil⟩
end Go.ValP
