/- Joined texts. -/
import Derived.Test.YtnllbjchcfpmpaaGreatDoorMFE
set_option linter.all false
namespace Go.Proofs.YtnllbjchcfpmpaaGreatDoor
open Go.Stp Go.ValP _root_.Go.Proofs
theorem Ca:Tryz.prog.eqGuardType Tryz.prog.depth 31=false:=by kernel_rfl
theorem Cg(x0 f g y1 u E:Int) (F G H J:Bool) (w:World):(Op.equalIn 10000 31 (.agg #[.int .i64 x0,.int .i64 g,.int .i64 u,.bool F,.bool H]) (.agg #[.int .i64 f,.int .i64 y1,.int .i64 E,.bool G,.bool J])).run Tryz.prog w=.ok (decide (x0=f)&&(decide (g=y1)&&(decide (u=E)&&(decide (F=G)&&(decide (H=J)))))) w:=by
 have u3:=Tryz.underlying3
 have a3:=Tryz.isAgg3
 have z3:=Tryz.sizeOf3
 have u4:=Tryz.underlying4
 have a4:=Tryz.isAgg4
 have z4:=Tryz.sizeOf4
 have W:=Tryz.underlying29
 have X:=Tryz.isAgg29
 have Y:=Tryz.sizeOf29
 rw[show(10000:Nat)=9998+1+1 from rfl,run_equalIn_agg w 9999 31 _ _ (by kernel_rfl) (by kernel_rfl)]
 simp only[Program.fieldsOf,Tryz.underlying31]
 go_simp
 by_cases h0:x0=f<;>by_cases h1:g=y1<;>by_cases h2:u=E<;>by_cases h3:F=G<;>by_cases h4:H=J<;>simp[h0,h1,h2,h3,h4]
end Go.Proofs.YtnllbjchcfpmpaaGreatDoor
