/- Joined texts. -/
import Derived.Test.YtnllbjchcfpmpaaGreatDoorRows
import Derived.Test.YtnllbjchcfpmpaaGreatDoorML0
set_option linter.all false
namespace Go.Proofs.YtnllbjchcfpmpaaGreatDoor
open Go.Stp
theorem my:cR Tryz.prog 27 [(0,1),(1,1),(2,1)] [.int .i64 0,.int .i64 0,S []]:=cR.mk Tryz.underlying27 Tryz.zeroValue27 rfl (λ_=>by kernel_rfl)
theorem kY:cR Tryz.prog 29 [(0,1),(1,1),(2,1)] [.int .i64 0,.int .i64 0,.int .i64 0]:=cR.mk Tryz.underlying29 Tryz.zeroValue29 rfl (λ_=>by kernel_rfl)
theorem wN:cR Tryz.prog 31 [(0,3),(3,1),(4,1)] [.int .i64 0,.int .i64 0,.int .i64 0,.bool false,.bool false]:=cR.mk Tryz.underlying31 Tryz.zeroValue31 rfl (λ_=>by kernel_rfl)
theorem mB:cR Tryz.prog 34 [(0,1),(1,1),(2,3),(5,5),(10,5),(15,1),(16,1)] [.int .i64 0,.int .i64 0,.int .i64 0,.int .i64 0,S [],.int .i64 0,.int .i64 0,.int .i64 0,.bool false,.bool false,.int .i64 0,.int .i64 0,.int .i64 0,.bool false,.bool false,S [],.slice none 0 0]:=cR.mk Tryz.underlying34 Tryz.zeroValue34 rfl (λ_=>by kernel_rfl)
theorem Eb:cR Tryz.prog 40 [(0,3),(3,3),(6,1)] [.int .i64 0,.int .i64 0,S [],.int .i64 0,.int .i64 0,.int .i64 0,.slice none 0 0]:=cR.mk Tryz.underlying40 Tryz.zeroValue40 rfl (λ_=>by kernel_rfl)
theorem D':cR Tryz.prog 74 [(0,1),(1,3),(4,1)] [.nilIface,.int .i64 0,.int .i64 0,.int .i64 0,.map none]:=cR.mk Tryz.underlying74 Tryz.zeroValue74 rfl (λ_=>by kernel_rfl)
theorem BS:cR Tryz.prog 76 [(0,3),(3,3)] [.int .i64 0,.int .i64 0,S [],.int .i64 0,.int .i64 0,.int .i64 0]:=cR.mk Tryz.underlying76 Tryz.zeroValue76 rfl (λ_=>by kernel_rfl)
theorem Du:cR Tryz.prog 91 [(0,1),(1,1),(2,1),(3,1)] [.slice none 0 0,.int .i64 0,.int .i64 0,.int .i64 0]:=cR.mk Tryz.underlying91 Tryz.zeroValue91 rfl (λ_=>by kernel_rfl)
theorem mU:cR Tryz.prog 109 [(0,1),(1,1),(2,1)] [.int .i64 0,S [],.int .i64 0]:=cR.mk Tryz.underlying109 Tryz.zeroValue109 rfl (λ_=>by kernel_rfl)
theorem C7:cR Tryz.prog 135 [(0,1),(1,1),(2,1)] [.bool false,.int .i64 0,.slice none 0 0]:=cR.mk Tryz.underlying135 Tryz.zeroValue135 rfl (λ_=>by kernel_rfl)
theorem CE:(Tryz.prog.info? 2).map (λi=>(i.zero.map (·.cells.size),i.size,i.bytes))=some (some 1,1,8):=by kernel_rfl
theorem CZ:(Tryz.prog.info? 5).map (λi=>(i.zero.map (·.cells.size),i.size,i.bytes))=some (some 1,1,1):=by kernel_rfl
theorem Es:(Tryz.prog.info? 9).map (λi=>(i.zero.map (·.cells.size),i.size,i.bytes))=some (some 1,1,16):=by kernel_rfl
theorem x5:(Tryz.prog.info? 27).map (λi=>(i.zero.map (·.cells.size),i.size,i.bytes))=some (some 3,3,32):=by kernel_rfl
theorem D_:(Tryz.prog.info? 29).map (λi=>(i.zero.map (·.cells.size),i.size,i.bytes))=some (some 3,3,24):=by kernel_rfl
theorem tW:(Tryz.prog.info? 34).map (λi=>(i.zero.map (·.cells.size),i.size,i.bytes))=some (some 17,17,152):=by kernel_rfl
theorem B_:(Tryz.prog.info? 76).map (λi=>(i.zero.map (·.cells.size),i.size,i.bytes))=some (some 6,6,56):=by kernel_rfl
theorem Dn:(Tryz.prog.info? 109).map (λi=>(i.zero.map (·.cells.size),i.size,i.bytes))=some (some 3,3,32):=by kernel_rfl
theorem Co:(Tryz.prog.info? 135).map (λi=>(i.zero.map (·.cells.size),i.size,i.bytes))=some (some 3,3,40):=by kernel_rfl
theorem vR:Tryz.prog.eqGuardType Tryz.prog.depth 27=false:=by kernel_rfl
theorem wn(x0 f x1 y1:Int) (g u:List UInt8) (w:World):(Op.equalIn 10000 27 (.agg #[.int .i64 x0,.int .i64 x1,S g]) (.agg #[.int .i64 f,.int .i64 y1,S u])).run Tryz.prog w=.ok ((decide (x0=f)&&(decide (x1=y1)&&decide (g=u)))) w:=by
 have H:=Tryz.underlying2
 have J:=Tryz.isAgg2
 have W:=Tryz.sizeOf2
 have X:=Tryz.underlying3
 have Y:=Tryz.isAgg3
 have z3:=Tryz.sizeOf3
 have u9:=Tryz.underlying9
 have a9:=Tryz.isAgg9
 have z9:=Tryz.sizeOf9
 rw[show(10000:Nat)=9999+1 from rfl,run_equalIn_agg w 9999 27 _ _ kR kR]
 simp only[Program.fieldsOf,Tryz.underlying27]
 go_simp
 by_cases E:x0=f<;>by_cases F:x1=y1<;>by_cases G:g=u<;>simp[E,F,G]
theorem DC:Tryz.prog.eqGuardType Tryz.prog.depth 29=false:=by kernel_rfl
theorem BM(x0 f g y1 u E:Int) (w:World):(Op.equalIn 10000 29 (.agg #[.int .i64 x0,.int .i64 g,.int .i64 u]) (.agg #[.int .i64 f,.int .i64 y1,.int .i64 E])).run Tryz.prog w=.ok ((decide (x0=f)&&(decide (g=y1)&&decide (u=E)))) w:=by
 have J:=Tryz.underlying3
 have W:=Tryz.isAgg3
 have X:=Tryz.sizeOf3
 rw[show(10000:Nat)=9999+1 from rfl,run_equalIn_agg w 9999 29 _ _ kR kR]
 simp only[Program.fieldsOf,Tryz.underlying29]
 go_simp
 by_cases F:x0=f<;>by_cases G:g=y1<;>by_cases H:u=E<;>simp[F,G,H]
theorem Ct:cR Tryz.prog 131 (Er 6 1) [.bool false,.bool false,.bool false,.bool false,.bool false,.bool false]:=cR.Fe Tryz.underlying131 Tryz.sizeOf4 Tryz.zeroValue131 rfl (cb 6 1)
abbrev A2:=@Tryz.isAgg2
abbrev aQ:=@Tryz.isAgg27
abbrev iT:=@Tryz.isAgg29
abbrev A3:=@Tryz.isAgg3
abbrev mP:=@Tryz.isAgg31
abbrev iO:=@Tryz.isAgg32
abbrev bQ:=@Tryz.isAgg34
abbrev j2:=@Tryz.isAgg76
abbrev oN:=@Tryz.isAgg83
abbrev pg:=@Tryz.isAgg89
abbrev A9:=@Tryz.isAgg9
abbrev ee:=@Tryz.sizeOf109
abbrev eh:=@Tryz.sizeOf135
abbrev Z2:=@Tryz.sizeOf2
abbrev wH:=@Tryz.sizeOf24
abbrev aq:=@Tryz.sizeOf27
abbrev dm:=@Tryz.sizeOf29
abbrev Z3:=@Tryz.sizeOf3
abbrev iR:=@Tryz.sizeOf31
abbrev hO:=@Tryz.sizeOf32
abbrev aL:=@Tryz.sizeOf34
abbrev Z5:=@Tryz.sizeOf5
abbrev eA:=@Tryz.sizeOf76
abbrev jW:=@Tryz.sizeOf83
abbrev Z9:=@Tryz.sizeOf9
abbrev j1:=@Tryz.underlying109
abbrev gp:=@Tryz.underlying132
abbrev kA:=@Tryz.underlying135
abbrev dp:=@Tryz.underlying188
abbrev U2:=@Tryz.underlying2
abbrev rM:=@Tryz.underlying22
abbrev C2:=@Tryz.underlying23
abbrev kU:=@Tryz.underlying24
abbrev cB:=@Tryz.underlying27
abbrev gH:=@Tryz.underlying29
abbrev U3:=@Tryz.underlying3
abbrev lF:=@Tryz.underlying31
abbrev dZ:=@Tryz.underlying32
abbrev cD:=@Tryz.underlying34
abbrev U4:=@Tryz.underlying4
abbrev zQ:=@Tryz.underlying40
abbrev U5:=@Tryz.underlying5
abbrev rA:=@Tryz.underlying76
abbrev nK:=@Tryz.underlying83
abbrev U9:=@Tryz.underlying9
abbrev ku:=@Tryz.underlying91
abbrev lg:=@Tryz.underlying94
abbrev eX:=@Tryz.zeroValue27
abbrev sO:=@Tryz.zeroValue29
abbrev AK:=@Tryz.zeroValue31
abbrev iS:=@Tryz.zeroValue34
abbrev td:=@Tryz.zeroValue76
end Go.Proofs.YtnllbjchcfpmpaaGreatDoor
