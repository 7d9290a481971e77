/- Joined texts. -/
import Derived.Test.YtcecjdnkcbfhlaaGreatDoorELibC
set_option linter.unusedSimpArgs false
set_option linter.unusedVariables false
set_option linter.unusedSectionVars false
namespace Go.Proofs.YtcecjdnkcbfhlaaGreatDoor
open Go.Stp Go.ValP
theorem gAscii:Tryz.prog.globalNamed "strings.asciiSpace" = some 0:=by kernel_rfl
theorem GW.offM {w:World} {mb:Nat} {m:List (C × Bool)} (h:GW w) (hm:w.heap[mb]?=some (MObj cV Value.bool m)):mb≠0∧mb≠6:=by
 refine ⟨fun e=>?_,fun e=>?_⟩
 · subst e
   have h1:=h.tab
   unfold Lib.TabIs World.var? at h1
   rw [gAscii] at h1
   simp only [Option.bind_some,hm,MObj] at h1
   cases h1
 · subst e
   obtain ⟨q,h1⟩:=h.maxlen
   unfold World.cell? at h1
   simp [hm,MObj] at h1
theorem GW.extB {w:World} {B:Bs} {w':World} (h:GW B.w) (X:ExtB B w') (hL:∀ b∈B.L,b≠0∧b≠6) (_e:B.w=w):GW w' where
 tab:=by
  have h1:=h.tab
  unfold Lib.TabIs World.var? at h1 ⊢
  rw [gAscii] at h1 ⊢
  simp only [Option.bind_some] at h1 ⊢
  have hlt:0<B.w.heap.size:=by
   rcases Nat.lt_or_ge 0 B.w.heap.size with h'|h'
   · exact h'
   · rw [Array.getElem?_eq_none h'] at h1;cases h1
  rw [X.block 0 hlt (fun hm=>(hL 0 hm).1 rfl)]
  exact h1
 maxlen:=by
  obtain ⟨q,hq⟩:=h.maxlen
  refine ⟨q,?_⟩
  unfold World.cell? at hq ⊢
  cases hb:B.w.heap[(6:Nat)]? with
  |none=>simp [hb] at hq
  |some o=>
   rw [X.block 6 (Array.getElem?_eq_some_iff.1 hb).1 (fun hm=>(hL 6 hm).2 rfl),hb]
   rw [hb] at hq
   exact hq
theorem GW.extM {w w':World} {mb:Nat} {m:List (C × Bool)} (h:GW w) (hm:w.heap[mb]?=some (MObj cV Value.bool m)) {B:Bs} (eB:B=⟨w,[mb]⟩) (X:ExtB B w'):GW w':=by
 subst eB
 exact GW.extB (B:=⟨w,[mb]⟩) h X (fun b hb=>by
  obtain rfl:b=mb:=by simpa using hb
  exact h.offM hm) rfl
theorem GW.offS {w:World} {b T:Nat} {v:Value} (h:GW w) (hv:∃ ao n c,v=.slice ao n c) (hm:w.heap[b]?=some (Cel [v] T)):b≠0∧b≠6:=by
 refine ⟨fun e=>?_,fun e=>?_⟩
 · subst e
   have h1:=h.tab
   unfold Lib.TabIs World.var? at h1
   rw [gAscii] at h1
   simp only [Option.bind_some,hm] at h1
   have h2:(1:Nat)=Lib.asciiSpaceTab.length:=by simpa using congrArg (fun o:Option (Array Value)=>o.map (·.size)) h1
   have h3:Lib.asciiSpaceTab.length=256:=by kernel_rfl
   omega
 · subst e
   obtain ⟨q,h1⟩:=h.maxlen
   obtain ⟨ao,n,c,rfl⟩:=hv
   unfold World.cell? at h1
   simp [hm] at h1
theorem GW.extS {w w':World} {b T:Nat} {v:Value} (h:GW w) (hv:∃ ao n c,v=.slice ao n c) (hm:w.heap[b]?=some (Cel [v] T)) {B:Bs} (eB:B=⟨w,[b]⟩) (X:ExtB B w'):GW w':=by
 subst eB
 exact GW.extB (B:=⟨w,[b]⟩) h X (fun c hc=>by
  obtain rfl:c=b:=by simpa using hc
  exact h.offS hv hm) rfl
end Go.Proofs.YtcecjdnkcbfhlaaGreatDoor
