/- Joined texts. -/
import Derived.Laws.Pointers
import Derived.Test.YtcecjdnkcbfhlaaGreatDoorEFG
import Derived.Test.YtcecjdnkcbfhlaaGreatDoorEL1
import Derived.Test.YtcecjdnkcbfhlaaGreatDoorEM0
set_option linter.unusedSimpArgs false
set_option linter.unusedVariables false
set_option linter.unusedSectionVars false
namespace Go.Proofs.YtcecjdnkcbfhlaaGreatDoor
open Go.Stp Go.ValP
structure GWL (w:World):Prop extends GW w where
 lev:∃ e fz,w.heap[2]?=some (.cells (levelsL.map S).toArray e fz)
instance {w:World}:Coe (GWL w) (GW w):=⟨GWL.toGW⟩
theorem GWL.ext {w w':World} (h:GWL w) (X:Ext w w'):GWL w':=⟨h.toGW.ext X,by
 obtain ⟨e,fz,h1⟩:=h.lev
 exact ⟨e,fz,X.block h1⟩⟩
theorem GWL.extP {w w':World} {b T:Nat} {v:Value} {r:List Value} (h:GWL w) (hv:∃ ao n c,v=.slice ao n c) (hm:w.heap[b]?=some (Cel (v::r) T)) (hr:r.length=3) {B:Bs} (eB:B=⟨w,[b]⟩) (X:ExtB B w'):GWL w':=by
 obtain ⟨e,fz,h1⟩:=h.lev
 obtain ⟨ao,n,c,rfl⟩:=hv
 have o0:b≠0:=by
  rintro rfl
  have h1:=h.tab
  unfold Lib.TabIs World.var? at h1
  rw [gAscii] at h1
  simp only [Option.bind_some,hm] at h1
  have h2:r.length+1=Lib.asciiSpaceTab.length:=by simpa using congrArg (fun o:Option (Array Value)=>o.map (·.size)) h1
  have h3:Lib.asciiSpaceTab.length=256:=by kernel_rfl
  omega
 have o6:b≠6:=by
  rintro rfl
  obtain ⟨q,h1⟩:=h.maxlen
  unfold World.cell? at h1
  simp [hm] at h1
 have o2:b≠2:=by
  rintro rfl
  rw [hm] at h1
  simp [Cel,levelsL,S] at h1
 subst eB
 have hL:∀ c∈(⟨w,[b]⟩:Bs).L,c≠0∧c≠6:=fun c hc=>by
  obtain rfl:c=b:=by simpa using hc
  exact ⟨o0,o6⟩
 refine ⟨GW.extB (B:=⟨w,[b]⟩) h.toGW X hL rfl,e,fz,?_⟩
 have hlt:=(Array.getElem?_eq_some_iff.1 h1).1
 refine (X.block 2 hlt (fun hq=>?_)).trans h1
 have hq:2∈[b]:=hq
 exact o2 (List.mem_singleton.1 hq).symm
theorem ta_nil (w:World):(Instr.typeAssert .nilIface 20 122 true).run Tryz.prog w=.ok (.tuple #[.agg #[.int .i64 0,.int .i64 0],.bool false]) w:=by kernel_rfl
theorem parse_idle {p0 p1 p2:Value} {w:World}:CallsD Tryz.prog 70 [p0,p1,p2].toArray .returning w fun e u' w'=>e=.returned (.tuple #[])∧u'=.returning∧Ext w w':=by
 refine callsD_of_wpS Tryz.func70 rfl fun c₀ cs hu=>?_
 apply wpS_seq
 apply wpS_region
 simp [wpOpsS,go_sem,recoverD,hu,Exit.thenS,ta_nil]
 apply wpS_seq
 apply wpS_region
 simp [wpOpsS,go_sem,Exit.thenS]
 refine wpS_cond (t:=false) (by simp [Act.eval,Array.replicate]) ?_
 simp only [Bool.false_eq_true,if_false]
 refine wpS_of_wp (wp_skip ?_)
 cases c₀
 simp_all [bodyPostS,results]
 exact Ext.alloc _ _
theorem parse_inv {p0 p1 p2:Value}:∀ w,(invoke (.fn (.func 70) [p0,p1,p2].toArray) #[]).run Tryz.prog w=.ok (.enter 70 [p0,p1,p2].toArray) w:=fun w=>by kernel_rfl
end Go.Proofs.YtcecjdnkcbfhlaaGreatDoor
