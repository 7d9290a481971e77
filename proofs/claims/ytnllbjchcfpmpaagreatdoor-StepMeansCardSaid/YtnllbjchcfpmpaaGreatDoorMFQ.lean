/- Joined texts. -/
import Derived.Test.YtnllbjchcfpmpaaGreatDoorMFPa
set_option linter.all false
namespace Go.Proofs.YtnllbjchcfpmpaaGreatDoor
open Go.Stp Go.ValP
set_option maxRecDepth 100000
theorem EK:(Tryz.prog.info? 9).map (λi=>(i.zero.map (·.cells),i.size,i.bytes))=some (some #[S []],1,16):=by kernel_rfl
theorem Dw:(∀tp p (w:World),(Op.equal 168 (.iface tp p) .nilIface).run Tryz.prog w=.ok false w)/\∀w:World,(Op.equal 168 .nilIface .nilIface).run Tryz.prog w=.ok true w:=⟨λ_ _ _=>by kernel_rfl,λ_=>by kernel_rfl⟩
theorem zm{s:List UInt8}{w:World}(hl:s.length<=18) (f:jY w):Calls Tryz.prog 181 [S s].toArray w (bj λv w'=>∃ev,v=.tuple #[.int .i64 ((Lib.atoi s).getD 0),ev]/\(((Lib.atoi s).isNone=true/\∃tp p,ev=.iface tp p)\/((Lib.atoi s).isNone=false/\ev=.nilIface))/\Ext w w'):=by
 cases h:Lib.atoi s with
 |some n=>
  refine(Tryz.strconv_Atoi ⟨s.toArray⟩ n (by simpa[ByteArray.size]using hl) h w).mono ?_
  rintro e w' ⟨rfl,t,rfl⟩
  exact⟨_,O,.inr ⟨O,O⟩,Lib.bytesWorld_below _ _ _⟩
 |none=>
  obtain⟨tp,p,g⟩:=f.err
  refine(Tryz.strconv_Atoi_err_var ⟨s.toArray⟩ (by simpa[ByteArray.size]using hl) h tp p w g).mono ?_
  rintro e w' ⟨N,rfl,_,_,u⟩
  exact⟨_,O,.inl ⟨O,_,_,O⟩,u⟩
end Go.Proofs.YtnllbjchcfpmpaaGreatDoor
