/- Joined texts. -/
import Derived.Test.YtnllbjchcfpmpaaGreatDoorMF0
import Derived.Test.YtnllbjchcfpmpaaGreatDoorML1
set_option linter.all false
namespace Go.Proofs.YtnllbjchcfpmpaaGreatDoor
open Go.Stp Go.ValP
theorem D0:∀w,(Instr.build 54 #[]).run Tryz.prog w=.ok (.agg (jT.flatMap vL).toArray) w:=λw=>by kernel_rfl
theorem Dq:∀v w,(Instr.makeInterface 36 v).run Tryz.prog w=.ok (.iface 36 v) w:=λv w=>by kernel_rfl
theorem xH:∀v z w,(callMethod (.iface 36 v) "Value" z).run Tryz.prog w=.ok (.enter 246 (#[v]++z)) w:=λv z w=>by kernel_rfl
theorem y_:∀v z w,(callMethod (.iface 36 v) "Name" z).run Tryz.prog w=.ok (.enter 245 (#[v]++z)) w:=λv z w=>by kernel_rfl
theorem EI:wS Tryz.prog 29 cV:=wS.agg Tryz.underlying29 (λb k w=>by kernel_rfl) (λa b=>rfl) (λa b w=>by
 have h:=BM a.s b.s a.c b.c a.r b.r w
 have f:(Op.equal 29 (cV a) (cV b)).run Tryz.prog w=.ok ((decide (a.s=b.s)&&(decide (a.c=b.c)&&decide (a.r=b.r)))) w:=h
 have e:(decide (a.s=b.s)&&(decide (a.c=b.c)&&decide (a.r=b.r)))=decide (a=b):=by
  rw[Bool.eq_iff_iff]
  simp only[Bool.and_eq_true,decide_eq_true_eq]
  cases a;cases b
  simp
 rw[f,e]) (λk=>by
 rw[show(10000:Nat)=9999+1 from rfl]
 simp[Instr.sameBits])
end Go.Proofs.YtnllbjchcfpmpaaGreatDoor
