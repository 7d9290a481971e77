/- What the rows' condition gives: the library's table. -/
import Derived.Test.YtmfblggkgmgccaaDoorLibC
import Derived.Test.YtmfblggkgmgccaaDoorRows
import Derived.Lib.LaidTab
import Derived.Lib.LaidU8
set_option linter.unusedSimpArgs false
set_option linter.unusedVariables false
set_option linter.unusedSectionVars false
namespace Go.Proofs.YtmfblggkgmgccaaDoor
open Go.Lib Go.RowKit
set_option maxRecDepth 100000
theorem gTab : Tryd.prog.globalNamed "strings.asciiSpace" = some 1 := by kernel_rfl
theorem gTabType : (Tryd.prog.globals[1]?).map (·.type) = some 62 := by kernel_rfl
theorem cellsE : Tryd.prog.cellsOf 5 = 1 := by kernel_rfl
theorem cellsT : Tryd.prog.cellsOf 62 = 256 := by kernel_rfl
theorem tab_of_reads {P : Program} {W : World} {name : String} {k : IntKind} {zs : List Int} {g : Nat} {t e : TypeId} {n : Nat}
    (hg : P.globalNamed name = some g) (hty : (P.globals[g]?).map (·.type) = some t) (ht : P.underlying t = some (.array n e)) (he : P.underlying e = some (.int k)) (hce : P.cellsOf e = 1) (hct : P.cellsOf t = n)
    (h : VarReads P W name (tabData k zs)) : TabIs P W name k zs := by
  obtain ⟨g', t', cs, fuel, p, hg', ht', hvar, hd⟩ := h
  obtain rfl := Option.some.inj (hg.symm.trans hg')
  obtain rfl := Option.some.inj (hty.symm.trans ht')
  unfold TabIs
  rw [hvar, ← cells_of_tab ht he hce hct hd]
theorem tab_laid {W : World} (hL : laidMetH Tryd.prog Rows.funcsComparisonsRow.laid W) : TabIs Tryd.prog W "strings.asciiSpace" .u8 Lib.asciiSpaceTab :=
  tab_of_reads gTab gTabType Tryd.underlying62 Tryd.underlying5 cellsE cellsT (Lib.laidMet.reads hL (.tail _ (.head _)))
end Go.Proofs.YtmfblggkgmgccaaDoor
