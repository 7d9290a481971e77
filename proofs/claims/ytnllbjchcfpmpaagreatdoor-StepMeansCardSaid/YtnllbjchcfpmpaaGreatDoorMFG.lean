/- Joined texts. -/
import Derived.Test.YtnllbjchcfpmpaaGreatDoorMLibC
set_option linter.all false
namespace Go.Proofs.YtnllbjchcfpmpaaGreatDoor
open Go.Stp Go.ValP
theorem se:Tryz.prog.globalNamed "strings.asciiSpace" = some 0:=by kernel_rfl
theorem GW.EH{w:World}{g:Nat}{m:List (C × Bool)}(h:GW w) (u:w.heap[g]?=some (cJ cV Value.bool m)):g≠0/\g≠5:=by
 refine⟨λe=>?_,λe=>?_⟩
 · subst e
   have f:=h.tab
   unfold Lib.TabIs World.var? at f
   rw[se]at f
   simp only[Option.bind_some,u,cJ]at f
   cases f
 · subst e
   obtain⟨q,f⟩:=h.maxlen
   unfold World.cell? at f
   simp[u,cJ]at f
theorem GW.Cj{w:World}{B:Bs}{w':World}(h:GW B.w) (X:ExtB B w') (G:∀b∈B.L,b≠0/\b≠5) (_e:B.w=w):GW w' where
 tab:=by
  have f:=h.tab
  unfold Lib.TabIs World.var? at f⊢
  rw[se]at f⊢
  simp only[Option.bind_some]at f⊢
  have E:0<B.w.heap.size:=by
   rcases Nat.lt_or_ge 0 B.w.heap.size with h'|h'
   ·exact h'
   ·rw[Array.getElem?_eq_none h']at f;cases f
  rw[X.block 0 E (λF=>(G 0 F).1 rfl)]
  exact f
 maxlen:=by
  obtain⟨q,g⟩:=h.maxlen
  refine⟨q,?_⟩
  unfold World.cell? at g⊢
  cases u:B.w.heap[(5:Nat)]? with
  |none=>simp[u]at g
  |some o=>
   rw[X.block 5 (Array.getElem?_eq_some_iff.1 u).1 (λF=>(G 5 F).2 rfl),u]
   rw[u]at g
   exact g
theorem GW.Bz{w w':World}{f:Nat}{m:List (C × Bool)}(h:GW w) (g:w.heap[f]?=some (cJ cV Value.bool m)){B:Bs}(eB:B=⟨w,[f]⟩) (X:ExtB B w'):GW w':=by
 subst eB
 exact GW.Cj (B:=⟨w,[f]⟩) h X (λb hb=>by
  obtain rfl:b=f:=by simpa using hb
  exact h.EH g) O
theorem GW.EM{w:World}{b T:Nat}{v:Value}(h:GW w) (E:∃g n c,v=.slice g n c) (u:w.heap[b]?=some (aB [v] T)):b≠0/\b≠5:=by
 refine⟨λe=>?_,λe=>?_⟩
 · subst e
   have f:=h.tab
   unfold Lib.TabIs World.var? at f
   rw[se]at f
   simp only[Option.bind_some,u]at f
   have F:(1:Nat)=Lib.asciiSpaceTab.length:=by simpa using congrArg (λo:Option (Array Value)=>o.map (·.size)) f
   have G:Lib.asciiSpaceTab.length=256:=by kernel_rfl
   omega
 · subst e
   obtain⟨q,f⟩:=h.maxlen
   obtain⟨g,n,c,rfl⟩:=E
   unfold World.cell? at f
   simp[u]at f
theorem GW.Ev{w w':World}{b T:Nat}{v:Value}(h:GW w) (f:∃g n c,v=.slice g n c) (u:w.heap[b]?=some (aB [v] T)){B:Bs}(eB:B=⟨w,[b]⟩) (X:ExtB B w'):GW w':=by
 subst eB
 exact GW.Cj (B:=⟨w,[b]⟩) h X (λc hc=>by
  obtain rfl:c=b:=by simpa using hc
  exact h.EM f u) O
end Go.Proofs.YtnllbjchcfpmpaaGreatDoor
