/- What the rows' condition gives: the library's tables. -/
import Derived.Test.YtlpfcclecmalhaaDoorLibC
import Derived.Test.YtlpfcclecmalhaaDoorRows
import Derived.Lib.LaidTab
import Derived.Lib.LaidU8
import Derived.Lib.ItoaNum
set_option linter.unusedSimpArgs false
set_option linter.unusedVariables false
set_option linter.unusedSectionVars false
namespace Go.Proofs.YtlpfcclecmalhaaDoor
open Go.Lib Go.RowKit
set_option maxRecDepth 100000
theorem tab_of_reads {P : Program} {W : World} {name : String} {k : IntKind} {zs : List Int} {g : Nat} {t e : TypeId} {n : Nat}
    (hg : P.globalNamed name = some g) (hty : (P.globals[g]?).map (·.type) = some t) (ht : P.underlying t = some (.array n e)) (he : P.underlying e = some (.int k)) (hce : P.cellsOf e = 1) (hct : P.cellsOf t = n)
    (h : VarReads P W name (tabData k zs)) : TabIs P W name k zs := by
  obtain ⟨g', t', cs, fuel, p, hg', ht', hvar, hd⟩ := h
  obtain rfl := Option.some.inj (hg.symm.trans hg')
  obtain rfl := Option.some.inj (hty.symm.trans ht')
  unfold TabIs
  rw [hvar, ← cells_of_tab ht he hce hct hd]
theorem gTabpow : Tryd.prog.globalNamed "internal/strconv.uint64pow10" = some 4 := by kernel_rfl
theorem gTabTypepow : (Tryd.prog.globals[4]?).map (·.type) = some 147 := by kernel_rfl
theorem cellsEpow : Tryd.prog.cellsOf 84 = 1 := by kernel_rfl
theorem cellsTpow : Tryd.prog.cellsOf 147 = 20 := by kernel_rfl
theorem pow_laid {W : World} (hL : laidMetH Tryd.prog Rows.polyNamesRow.laid W) : TabIs Tryd.prog W "internal/strconv.uint64pow10" .u64 Lib.pow10Tab :=
  tab_of_reads gTabpow gTabTypepow Tryd.underlying147 Tryd.underlying84 cellsEpow cellsTpow (Lib.laidMet.reads hL (.tail _ (.tail _ (.head _))))
theorem gTabtab : Tryd.prog.globalNamed "strings.asciiSpace" = some 0 := by kernel_rfl
theorem gTabTypetab : (Tryd.prog.globals[0]?).map (·.type) = some 111 := by kernel_rfl
theorem cellsEtab : Tryd.prog.cellsOf 5 = 1 := by kernel_rfl
theorem cellsTtab : Tryd.prog.cellsOf 111 = 256 := by kernel_rfl
theorem tab_laid {W : World} (hL : laidMetH Tryd.prog Rows.polyNamesRow.laid W) : TabIs Tryd.prog W "strings.asciiSpace" .u8 Lib.asciiSpaceTab :=
  tab_of_reads gTabtab gTabTypetab Tryd.underlying111 Tryd.underlying5 cellsEtab cellsTtab (Lib.laidMet.reads hL (.tail _ (.tail _ (.tail _ (.tail _ (.head _))))))
end Go.Proofs.YtlpfcclecmalhaaDoor
