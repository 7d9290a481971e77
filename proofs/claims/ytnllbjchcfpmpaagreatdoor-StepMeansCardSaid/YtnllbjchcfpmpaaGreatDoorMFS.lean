/- Joined texts. -/
import Derived.Test.YtnllbjchcfpmpaaGreatDoorMFE
import Derived.Test.YtnllbjchcfpmpaaGreatDoorMShelf
set_option linter.all false
namespace Go.Proofs.YtnllbjchcfpmpaaGreatDoor
open Go.Stp Go.ValP Go.Sort
set_option maxHeartbeats 1000000 in
theorem Dg(x y:C) (W:World):Calls Tryz.prog 30 #[.agg #[.int .i64 x.s,.int .i64 x.c,.int .i64 x.r],.agg #[.int .i64 y.s,.int .i64 y.c,.int .i64 y.r]] W λe w'=>e=.returned (.bool (nc x y))/\∃f,w'=grow W f:=by
 go_enter Tryz.func30,Tryz.ntmps30
 go_wp2
 all_goals go_ret
 all_goals exact⟨by simp_all[nc],_,by rw[alloc_eq_grow,alloc_eq_grow,grow_grow]⟩
set_option maxHeartbeats 1000000 in
theorem DW(x y:C) (W:World):Calls Tryz.prog 29 #[.agg #[.int .i64 x.s,.int .i64 x.c,.int .i64 x.r],.agg #[.int .i64 y.s,.int .i64 y.c,.int .i64 y.r]] W λe w'=>e=.returned (.int .i64 (j6 x y))/\∃q g,w'=grow (W.drewN q) g:=by
 have f:=λu=>Dg x y u
 unfold j6
 generalize nc x y=r at f⊢
 go_enter Tryz.func29,Tryz.ntmps29
 go_wp2_with (go_at_call 30;refine(f _).mono ?_;rintro e w' ⟨rfl,os,rfl⟩)
 all_goals(try go_ret)
 all_goals first
  |(exfalso;simp_all;done)
  |exact⟨by simp_all,0,_,by rw[alloc_eq_grow,alloc_eq_grow,grow_grow,grow_grow];rfl⟩
theorem xI(blk off size:Nat) (w:World):CmpLays Tryz.prog 29 #[] cL 3 j6 blk off size w:=λ_ _ _ _ x y=>DW x y _
theorem xU{w0:Bs}{Zi Z:FZ}{hl:List Own}{w:World}(H:HZ w0 Zi Z hl w) (i:Nat){F:Value}{ks:List C}(hi:hl[i]?=some (.row 29 3 F ks.length (ks.flatMap cL))){m:List (C × Bool)}(hp:ks.Perm (m.map (·.1))) (a1:m.length<4611686018427387904) :
 Calls Tryz.prog 28 [F,.func (.func 29) #[] #[]].toArray w (bj λv w'=>v=.tuple #[]/\HZ w0 Zi Z (hl.set i (.row 29 3 F (uo m).length ((uo m).flatMap cL))) w'):=by
 have u:(uo m).length=ks.length:=by rw[<-rj hp];exact(j3 ks).length_eq
 have G:i<hl.length:=(List.getElem?_eq_some_iff.1 hi).1
 rcases(H.hp.eT i hi).2 with⟨rfl,h0⟩|⟨g,J,a6,rfl,_,W,h1,h2,h3,h4⟩
 · obtain rfl:ks=[]:=List.length_eq_zero_iff.1 h0
   have h5:uo m=[]:=List.length_eq_zero_iff.1 (by rw[u];rfl)
   rw[h5]
   have h6:hl.set i (.row 29 3 (.slice none 0 0) ([]:List C).length (([]:List C).flatMap cL))=hl:=by
    apply List.ext_getElem?
    intro j
    by_cases Y:i=j
    · subst Y
      rw[List.getElem?_set_self G,hi]
    ·rw[List.getElem?_set_ne Y]
   rw[h6]
   have f:=AnyF.slices_SortFunc_none Tryz.tm none 0 (.func (.func 29) #[] #[]) w
   change Calls Tryz.prog 28 _ _ _ at f
   exact f.mono λe w' ⟨X,E⟩=>by
    subst X E
    exact⟨O,H⟩
 · have eg:∀args w,(callFunc 29 args).run Tryz.prog w=.ok (.enter 29 args) w:=enters_of Tryz.func29 (by kernel_rfl) rfl
   have hH:HoldsK cL 3 w g 0 ks.toArray:=uV (λ_=>rfl) (by decide) W (by simpa using h4)
   have f:=AnyQ.slices_SortFunc_total Tryz.tm 3 Tryz.isAgg29 Tryz.sizeOf29 cL (λ_=>rfl) (λx v hv=>by simp at hv;rcases hv with rfl|rfl|rfl<;>rfl) j6 BC 29 #[] g 0 J ks.toArray w eg (xI g 0 _ w) hH (Array.getElem?_eq_some_iff.1 W).1 (by
    have:=hp.length_eq
    simp only[List.size_toArray,List.length_map]at this⊢
    omega) Ei
   change Calls Tryz.prog 28 _ _ _ at f
   refine f.mono λe w' ⟨X,n,os,E⟩=>?_
   subst X
   refine⟨O,?_⟩
   have hs:(ks.toArray.toList.mergeSort λx y=>!(ltOf j6) y x)=uo m:=by rw[<-rj hp];rfl
   rw[hs]at E
   rw[E]
   exact H.sorted i (λ_=>rfl) (by decide) hi W h1 h2 (by simpa using h3) u
end Go.Proofs.YtnllbjchcfpmpaaGreatDoor
