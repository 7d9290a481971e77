/- Joined texts. -/
import Derived.Test.YtnllbjchcfpmpaaGreatDoorMFG
import Derived.Test.YtnllbjchcfpmpaaGreatDoorMM0
set_option linter.all false
namespace Go.Proofs.YtnllbjchcfpmpaaGreatDoor
open Go.Stp Go.ValP
theorem CG:Tryz.prog.globalNamed "strconv.ErrSyntax" = some 9:=by kernel_rfl
theorem rk{w:World}{a:Array Value}(h:w.var? Tryz.prog "strconv.ErrSyntax" = some a):∃e fz,w.heap[9]?=some (.cells a e fz):=by
 unfold World.var? at h
 rw[CG]at h
 simp only[Option.bind_some]at h
 split at h
 · rename_i e fz hh
   cases h
   exact⟨e,fz,hh⟩
 ·cases h
theorem rI{w:World}{a:Array Value}(h:∃e fz,w.heap[9]?=some (.cells a e fz)):w.var? Tryz.prog "strconv.ErrSyntax" = some a:=by
 obtain⟨e,fz,h⟩:=h
 unfold World.var?
 rw[CG]
 simp only[Option.bind_some,h]
structure jY (w:World):Prop extends GW w where
 lev:∃e fz,w.heap[1]?=some (.cells (levelsL.map S).toArray e fz)
 err:∃tp p,w.var? Tryz.prog "strconv.ErrSyntax" = some #[.iface tp p]
instance {w:World}:Coe (jY w) (GW w):=⟨jY.toGW⟩
theorem jY.ext{w w':World}(h:jY w) (X:Ext w w'):jY w':=⟨h.toGW.ext X,by
 obtain⟨e,fz,f⟩:=h.lev
 exact⟨e,fz,X.block f⟩,by
 obtain⟨tp,p,f⟩:=h.err
 obtain⟨e,fz,g⟩:=rk f
 exact⟨tp,p,rI ⟨e,fz,X.block g⟩⟩⟩
theorem jY.qw{w w':World}{b T:Nat}{v:Value}{r:List Value}(h:jY w) (W:∃H n c,v=.slice H n c) (F:w.heap[b]?=some (aB (v::r) T)) (hr:r.length=3){B:Bs}(eB:B=⟨w,[b]⟩) (X:ExtB B w'):jY w':=by
 obtain⟨e,fz,f⟩:=h.lev
 obtain⟨H,n,c,rfl⟩:=W
 have Y:b≠0:=by
  rintro rfl
  have f:=h.tab
  unfold Lib.TabIs World.var? at f
  rw[se]at f
  simp only[Option.bind_some,F]at f
  have J:r.length+1=Lib.asciiSpaceTab.length:=by simpa using congrArg (λo:Option (Array Value)=>o.map (·.size)) f
  have E:Lib.asciiSpaceTab.length=256:=by kernel_rfl
  omega
 have o5:b≠5:=by
  rintro rfl
  obtain⟨q,f⟩:=h.maxlen
  unfold World.cell? at f
  simp[F]at f
 have o2:b≠1:=by
  rintro rfl
  rw[F]at f
  simp[aB,levelsL,S]at f
 subst eB
 have hL:∀c∈(⟨w,[b]⟩:Bs).L,c≠0/\c≠5:=λc hc=>by
  obtain rfl:c=b:=by simpa using hc
  exact⟨Y,o5⟩
 obtain⟨tp,p,J⟩:=h.err
 obtain⟨e3,G,E⟩:=rk J
 have o9:b≠9:=by
  rintro rfl
  rw[F]at E
  simp[aB]at E
 refine⟨GW.Cj (B:=⟨w,[b]⟩) h.toGW X hL O,⟨e,fz,?_⟩,tp,p,rI ⟨e3,G,?_⟩⟩
 rotate_left
 · have g:=(Array.getElem?_eq_some_iff.1 E).1
   refine(X.block 9 g (λu=>?_)).trans E
   have u:9∈[b]:=u
   exact o9 (List.mem_singleton.1 u).symm
 have g:=(Array.getElem?_eq_some_iff.1 f).1
 refine(X.block 1 g (λu=>?_)).trans f
 have u:1∈[b]:=u
 exact o2 (List.mem_singleton.1 u).symm
theorem Dm(w:World):(Instr.typeAssert .nilIface 20 87 true).run Tryz.prog w=.ok (.tuple #[.agg #[.int .i64 0,.int .i64 0],.bool false]) w:=by kernel_rfl
theorem vh{f g u:Value}{w:World}:CallsD Tryz.prog 38 [f,g,u].toArray .returning w λe E w'=>e=.returned (.tuple #[])/\E=.returning/\Ext w w':=by
 refine callsD_of_wpS Tryz.func38 O λF cs G=>?_
 apply wpS_seq
 apply wpS_region
 simp[wpOpsS,go_sem,recoverD,G,Exit.thenS,Dm]
 apply wpS_seq
 apply wpS_region
 simp[wpOpsS,go_sem,Exit.thenS]
 refine wpS_cond (t:=false) (by simp[Act.eval,Array.replicate]) ?_
 simp only[Bool.false_eq_true,if_false]
 refine wpS_of_wp (wp_skip ?_)
 cases F
 simp_all[bodyPostS,results]
 exact Ext.alloc _ _
theorem xv{f g u:Value}:∀w,(invoke (.fn (.func 38) [f,g,u].toArray) #[]).run Tryz.prog w=.ok (.enter 38 [f,g,u].toArray) w:=λw=>by kernel_rfl
end Go.Proofs.YtnllbjchcfpmpaaGreatDoor
