/- Joined texts. -/
import Derived.Test.YtcecjdnkcbfhlaaGreatDoorEFE
set_option linter.unusedSimpArgs false
set_option linter.unusedVariables false
set_option linter.unusedSectionVars false
namespace Go.Proofs.YtcecjdnkcbfhlaaGreatDoor
open Go.Stp Go.ValP _root_.Go.Proofs
theorem age30:Tryz.prog.eqGuardType Tryz.prog.depth 30=false:=by kernel_rfl
theorem agq30 (x0 y0:Int) (x1 y1:Int) (x2 y2:Int) (x3 y3:Bool) (x4 y4:Bool) (w:World):(Op.equalIn 10000 30 (.agg #[.int .i64 x0,.int .i64 x1,.int .i64 x2,.bool x3,.bool x4]) (.agg #[.int .i64 y0,.int .i64 y1,.int .i64 y2,.bool y3,.bool y4])).run Tryz.prog w=.ok (decide (x0=y0)&&(decide (x1=y1)&&(decide (x2=y2)&&(decide (x3=y3)&&(decide (x4=y4)))))) w:=by
 have u3:=Tryz.underlying3
 have a3:=Tryz.isAgg3
 have z3:=Tryz.sizeOf3
 have u4:=Tryz.underlying4
 have a4:=Tryz.isAgg4
 have z4:=Tryz.sizeOf4
 have u28:=Tryz.underlying28
 have a28:=Tryz.isAgg28
 have z28:=Tryz.sizeOf28
 rw [show (10000:Nat)=9998+1+1 from rfl,run_equalIn_agg w 9999 30 _ _ (by kernel_rfl) (by kernel_rfl)]
 simp only [Program.fieldsOf,Tryz.underlying30]
 go_simp
 by_cases h0:x0=y0<;>by_cases h1:x1=y1<;>by_cases h2:x2=y2<;>by_cases h3:x3=y3<;>by_cases h4:x4=y4<;>simp [h0,h1,h2,h3,h4]
end Go.Proofs.YtcecjdnkcbfhlaaGreatDoor
