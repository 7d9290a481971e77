/- Joined texts. -/
import Derived.Test.YtcecjdnkcbfhlaaGreatDoorRows
import Derived.Tactics
import Derived.Tactics2
import Derived.Laws.StructEq
import Derived.Test.YtcecjdnkcbfhlaaGreatDoorEL0
set_option linter.unusedSimpArgs false
set_option linter.unusedVariables false
set_option linter.unusedSectionVars false
namespace Go.Proofs.YtcecjdnkcbfhlaaGreatDoor
open Go.Stp
theorem bld26:Builds Tryz.prog 26 [(0,1),(1,1),(2,1)] [.int .i64 0,.int .i64 0,S []]:=Builds.mk Tryz.underlying26 Tryz.zeroValue26 rfl (fun _=>by kernel_rfl)
theorem bld28:Builds Tryz.prog 28 [(0,1),(1,1),(2,1)] [.int .i64 0,.int .i64 0,.int .i64 0]:=Builds.mk Tryz.underlying28 Tryz.zeroValue28 rfl (fun _=>by kernel_rfl)
theorem bld30:Builds Tryz.prog 30 [(0,3),(3,1),(4,1)] [.int .i64 0,.int .i64 0,.int .i64 0,.bool false,.bool false]:=Builds.mk Tryz.underlying30 Tryz.zeroValue30 rfl (fun _=>by kernel_rfl)
theorem bld33:Builds Tryz.prog 33 [(0,1),(1,1),(2,3),(5,5),(10,5),(15,1),(16,1)] [.int .i64 0,.int .i64 0,.int .i64 0,.int .i64 0,S [],.int .i64 0,.int .i64 0,.int .i64 0,.bool false,.bool false,.int .i64 0,.int .i64 0,.int .i64 0,.bool false,.bool false,S [],.slice none 0 0]:=Builds.mk Tryz.underlying33 Tryz.zeroValue33 rfl (fun _=>by kernel_rfl)
theorem bld51:Builds Tryz.prog 51 [(0,3),(3,3),(6,1)] [.int .i64 0,.int .i64 0,S [],.int .i64 0,.int .i64 0,.int .i64 0,.slice none 0 0]:=Builds.mk Tryz.underlying51 Tryz.zeroValue51 rfl (fun _=>by kernel_rfl)
theorem bld107:Builds Tryz.prog 107 [(0,1),(1,3),(4,1)] [.nilIface,.int .i64 0,.int .i64 0,.int .i64 0,.map none]:=Builds.mk Tryz.underlying107 Tryz.zeroValue107 rfl (fun _=>by kernel_rfl)
theorem bld109:Builds Tryz.prog 109 [(0,3),(3,3)] [.int .i64 0,.int .i64 0,S [],.int .i64 0,.int .i64 0,.int .i64 0]:=Builds.mk Tryz.underlying109 Tryz.zeroValue109 rfl (fun _=>by kernel_rfl)
theorem bld126:Builds Tryz.prog 126 [(0,1),(1,1),(2,1),(3,1)] [.slice none 0 0,.int .i64 0,.int .i64 0,.int .i64 0]:=Builds.mk Tryz.underlying126 Tryz.zeroValue126 rfl (fun _=>by kernel_rfl)
theorem bld158:Builds Tryz.prog 158 [(0,1),(1,1),(2,1)] [.int .i64 0,S [],.int .i64 0]:=Builds.mk Tryz.underlying158 Tryz.zeroValue158 rfl (fun _=>by kernel_rfl)
theorem bld182:Builds Tryz.prog 182 [(0,1),(1,1),(2,1)] [.bool false,.int .i64 0,.slice none 0 0]:=Builds.mk Tryz.underlying182 Tryz.zeroValue182 rfl (fun _=>by kernel_rfl)
theorem app2:(Tryz.prog.info? 2).map (fun i=>(i.zero.map (·.cells.size),i.size,i.bytes))=some (some 1,1,8):=by kernel_rfl
theorem app5:(Tryz.prog.info? 5).map (fun i=>(i.zero.map (·.cells.size),i.size,i.bytes))=some (some 1,1,1):=by kernel_rfl
theorem app9:(Tryz.prog.info? 9).map (fun i=>(i.zero.map (·.cells.size),i.size,i.bytes))=some (some 1,1,16):=by kernel_rfl
theorem app26:(Tryz.prog.info? 26).map (fun i=>(i.zero.map (·.cells.size),i.size,i.bytes))=some (some 3,3,32):=by kernel_rfl
theorem app28:(Tryz.prog.info? 28).map (fun i=>(i.zero.map (·.cells.size),i.size,i.bytes))=some (some 3,3,24):=by kernel_rfl
theorem app33:(Tryz.prog.info? 33).map (fun i=>(i.zero.map (·.cells.size),i.size,i.bytes))=some (some 17,17,152):=by kernel_rfl
theorem app109:(Tryz.prog.info? 109).map (fun i=>(i.zero.map (·.cells.size),i.size,i.bytes))=some (some 6,6,56):=by kernel_rfl
theorem app158:(Tryz.prog.info? 158).map (fun i=>(i.zero.map (·.cells.size),i.size,i.bytes))=some (some 3,3,32):=by kernel_rfl
theorem app182:(Tryz.prog.info? 182).map (fun i=>(i.zero.map (·.cells.size),i.size,i.bytes))=some (some 3,3,40):=by kernel_rfl
theorem age26:Tryz.prog.eqGuardType Tryz.prog.depth 26=false:=by kernel_rfl
theorem agq26 (x0 y0:Int) (x1 y1:Int) (x2 y2:List UInt8) (w:World):(Op.equalIn 10000 26 (.agg #[.int .i64 x0,.int .i64 x1,S x2]) (.agg #[.int .i64 y0,.int .i64 y1,S y2])).run Tryz.prog w=.ok ((decide (x0=y0)&&(decide (x1=y1)&&decide (x2=y2)))) w:=by
 have u2:=Tryz.underlying2
 have a2:=Tryz.isAgg2
 have z2:=Tryz.sizeOf2
 have u3:=Tryz.underlying3
 have a3:=Tryz.isAgg3
 have z3:=Tryz.sizeOf3
 have u9:=Tryz.underlying9
 have a9:=Tryz.isAgg9
 have z9:=Tryz.sizeOf9
 rw [show (10000:Nat)=9999+1 from rfl,run_equalIn_agg w 9999 26 _ _ kR kR]
 simp only [Program.fieldsOf,Tryz.underlying26]
 go_simp
 by_cases h0:x0=y0<;>by_cases h1:x1=y1<;>by_cases h2:x2=y2<;>simp [h0,h1,h2]
theorem age28:Tryz.prog.eqGuardType Tryz.prog.depth 28=false:=by kernel_rfl
theorem agq28 (x0 y0:Int) (x1 y1:Int) (x2 y2:Int) (w:World):(Op.equalIn 10000 28 (.agg #[.int .i64 x0,.int .i64 x1,.int .i64 x2]) (.agg #[.int .i64 y0,.int .i64 y1,.int .i64 y2])).run Tryz.prog w=.ok ((decide (x0=y0)&&(decide (x1=y1)&&decide (x2=y2)))) w:=by
 have u3:=Tryz.underlying3
 have a3:=Tryz.isAgg3
 have z3:=Tryz.sizeOf3
 rw [show (10000:Nat)=9999+1 from rfl,run_equalIn_agg w 9999 28 _ _ kR kR]
 simp only [Program.fieldsOf,Tryz.underlying28]
 go_simp
 by_cases h0:x0=y0<;>by_cases h1:x1=y1<;>by_cases h2:x2=y2<;>simp [h0,h1,h2]
theorem bld178:Builds Tryz.prog 178 (plA 6 1) [.bool false,.bool false,.bool false,.bool false,.bool false,.bool false]:=Builds.mkA Tryz.underlying178 Tryz.sizeOf4 Tryz.zeroValue178 rfl (plA_get 6 1)
abbrev A109:=@Tryz.isAgg109
abbrev A2:=@Tryz.isAgg2
abbrev A26:=@Tryz.isAgg26
abbrev A28:=@Tryz.isAgg28
abbrev A3:=@Tryz.isAgg3
abbrev A31:=@Tryz.isAgg31
abbrev A33:=@Tryz.isAgg33
abbrev A9:=@Tryz.isAgg9
abbrev Z109:=@Tryz.sizeOf109
abbrev Z118:=@Tryz.sizeOf118
abbrev Z158:=@Tryz.sizeOf158
abbrev Z182:=@Tryz.sizeOf182
abbrev Z2:=@Tryz.sizeOf2
abbrev Z26:=@Tryz.sizeOf26
abbrev Z28:=@Tryz.sizeOf28
abbrev Z3:=@Tryz.sizeOf3
abbrev Z30:=@Tryz.sizeOf30
abbrev Z31:=@Tryz.sizeOf31
abbrev Z33:=@Tryz.sizeOf33
abbrev Z5:=@Tryz.sizeOf5
abbrev Z63:=@Tryz.sizeOf63
abbrev Z9:=@Tryz.sizeOf9
abbrev U109:=@Tryz.underlying109
abbrev U116:=@Tryz.underlying116
abbrev U118:=@Tryz.underlying118
abbrev U126:=@Tryz.underlying126
abbrev U158:=@Tryz.underlying158
abbrev U179:=@Tryz.underlying179
abbrev U182:=@Tryz.underlying182
abbrev U2:=@Tryz.underlying2
abbrev U22:=@Tryz.underlying22
abbrev U23:=@Tryz.underlying23
abbrev U231:=@Tryz.underlying231
abbrev U26:=@Tryz.underlying26
abbrev U28:=@Tryz.underlying28
abbrev U3:=@Tryz.underlying3
abbrev U30:=@Tryz.underlying30
abbrev U31:=@Tryz.underlying31
abbrev U33:=@Tryz.underlying33
abbrev U4:=@Tryz.underlying4
abbrev U5:=@Tryz.underlying5
abbrev U51:=@Tryz.underlying51
abbrev U63:=@Tryz.underlying63
abbrev U9:=@Tryz.underlying9
abbrev V109:=@Tryz.zeroValue109
abbrev V26:=@Tryz.zeroValue26
abbrev V28:=@Tryz.zeroValue28
abbrev V33:=@Tryz.zeroValue33
end Go.Proofs.YtcecjdnkcbfhlaaGreatDoor
