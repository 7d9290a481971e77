/- Joined texts. -/
import Derived.Test.YtcecjdnkcbfhlaaGreatDoorEF0
import Derived.Test.YtcecjdnkcbfhlaaGreatDoorEL1
set_option linter.unusedSimpArgs false
set_option linter.unusedVariables false
set_option linter.unusedSectionVars false
namespace Go.Proofs.YtcecjdnkcbfhlaaGreatDoor
open Go.Stp Go.ValP
theorem bldZ:∀ w,(Instr.build 39 #[]).run Tryz.prog w=.ok (.agg (zeroPl.flatMap vL).toArray) w:=fun w=>by kernel_rfl
theorem mkI:∀ v w,(Instr.makeInterface 35 v).run Tryz.prog w=.ok (.iface 35 v) w:=fun v w=>by kernel_rfl
theorem ifm_Value:∀ v z w,(callMethod (.iface 35 v) "Value" z).run Tryz.prog w=.ok (.enter 284 (#[v]++z)) w:=fun v z w=>by kernel_rfl
theorem ifm_Name:∀ v z w,(callMethod (.iface 35 v) "Name" z).run Tryz.prog w=.ok (.enter 283 (#[v]++z)) w:=fun v z w=>by kernel_rfl
theorem mk28:MKey Tryz.prog 28 cV:=MKey.agg Tryz.underlying28 (fun b k w=>by kernel_rfl) (fun a b=>rfl) (fun a b w=>by
 have h:=agq28 a.s b.s a.c b.c a.r b.r w
 have h':(Op.equal 28 (cV a) (cV b)).run Tryz.prog w=.ok ((decide (a.s=b.s)&&(decide (a.c=b.c)&&decide (a.r=b.r)))) w:=h
 have e:(decide (a.s=b.s)&&(decide (a.c=b.c)&&decide (a.r=b.r)))=decide (a=b):=by
  rw [Bool.eq_iff_iff]
  simp only [Bool.and_eq_true,decide_eq_true_eq]
  cases a;cases b
  simp
 rw [h',e]) (fun k=>by
 rw [show (10000:Nat)=9999+1 from rfl]
 simp [Instr.sameBits])
end Go.Proofs.YtcecjdnkcbfhlaaGreatDoor
