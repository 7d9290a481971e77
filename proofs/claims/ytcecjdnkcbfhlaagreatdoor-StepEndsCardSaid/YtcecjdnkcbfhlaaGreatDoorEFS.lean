/- Joined texts. -/
import Derived.Tactics
import Derived.Tactics2
import Derived.Test.YtcecjdnkcbfhlaaGreatDoorEFE
import Derived.Test.YtcecjdnkcbfhlaaGreatDoorEL1
import Derived.Test.YtcecjdnkcbfhlaaGreatDoorEShelf
set_option linter.unusedSimpArgs false
set_option linter.unusedVariables false
set_option linter.unusedSectionVars false
namespace Go.Proofs.YtcecjdnkcbfhlaaGreatDoor
open Go.Stp Go.ValP Go.Sort
set_option maxHeartbeats 1000000 in
theorem less61 (x y:C) (W:World):Calls Tryz.prog 61 #[.agg #[.int .i64 x.s,.int .i64 x.c,.int .i64 x.r],.agg #[.int .i64 y.s,.int .i64 y.c,.int .i64 y.r]] W fun e w'=>e=.returned (.bool (cLess x y))∧∃ os',w'=grow W os':=by
 go_enter Tryz.func61,Tryz.ntmps61
 go_wp2
 all_goals go_ret
 all_goals exact ⟨by simp_all [cLess],_,by rw [alloc_eq_grow,alloc_eq_grow,grow_grow]⟩
set_option maxHeartbeats 1000000 in
theorem cmp60 (x y:C) (W:World):Calls Tryz.prog 60 #[.agg #[.int .i64 x.s,.int .i64 x.c,.int .i64 x.r],.agg #[.int .i64 y.s,.int .i64 y.c,.int .i64 y.r]] W fun e w'=>e=.returned (.int .i64 (cCmp x y))∧∃ q os',w'=grow (W.drewN q) os':=by
 have hcon:=fun W'=>less61 x y W'
 unfold cCmp
 generalize cLess x y=r at hcon ⊢
 go_enter Tryz.func60,Tryz.ntmps60
 go_wp2_with (go_at_call 61;refine (hcon _).mono ?_;rintro e w' ⟨rfl,os,rfl⟩)
 all_goals (try go_ret)
 all_goals first
  |(exfalso;simp_all;done)
  |exact ⟨by simp_all,0,_,by rw [alloc_eq_grow,alloc_eq_grow,grow_grow,grow_grow];rfl⟩
theorem cmpLays60 (blk off size:Nat) (w:World):CmpLays Tryz.prog 60 #[] cL 3 cCmp blk off size w:=fun _ _ _ _ x y=>cmp60 x y _
theorem sortC_ok {w0:Bs} {Zi Z:FZ} {hl:List Own} {w:World} (H:HZ w0 Zi Z hl w) (i:Nat) {sv:Value} {ks:List C} (hi:hl[i]?=some (.row 28 3 sv ks.length (ks.flatMap cL))) {m:List (C × Bool)} (hp:ks.Perm (m.map (·.1))) (hsz:m.length<4611686018427387904) :
 Calls Tryz.prog 59 [sv,.func (.func 60) #[] #[]].toArray w (Ret fun v w'=>v=.tuple #[]∧HZ w0 Zi Z (hl.set i (.row 28 3 sv (srtK m).length ((srtK m).flatMap cL))) w'):=by
 have hlen:(srtK m).length=ks.length:=by rw [←srtK_perm hp];exact (cellSort_perm ks).length_eq
 have hil:i<hl.length:=(List.getElem?_eq_some_iff.1 hi).1
 rcases (H.hp.getRow i hi).2 with ⟨rfl,h0⟩|⟨g,cap,cur,rfl,_,hb,h1,h2,h3,h4⟩
 · obtain rfl:ks=[]:=List.length_eq_zero_iff.1 h0
   have h5:srtK m=[]:=List.length_eq_zero_iff.1 (by rw [hlen];rfl)
   rw [h5]
   have h6:hl.set i (.row 28 3 (.slice none 0 0) ([]:List C).length (([]:List C).flatMap cL))=hl:=by
    apply List.ext_getElem?
    intro j
    by_cases hj:i=j
    · subst hj
      rw [List.getElem?_set_self hil,hi]
    · rw [List.getElem?_set_ne hj]
   rw [h6]
   have hcon:=AnyF.slices_SortFunc_none Tryz.sortCell none 0 (.func (.func 60) #[] #[]) w
   change Calls Tryz.prog 59 _ _ _ at hcon
   exact hcon.mono fun e w' ⟨he,hw⟩=>by
    subst he hw
    exact ⟨rfl,H⟩
 · have eg:∀ args w,(callFunc 60 args).run Tryz.prog w=.ok (.enter 60 args) w:=enters_of Tryz.func60 (by kernel_rfl) rfl
   have hH:HoldsK cL 3 w g 0 ks.toArray:=holdsK_row (fun _=>rfl) (by decide) hb (by simpa using h4)
   have hcon:=AnyQ.slices_SortFunc_total Tryz.sortCell 3 Tryz.isAgg28 Tryz.sizeOf28 cL (fun _=>rfl) (fun x v hv=>by simp at hv;rcases hv with rfl|rfl|rfl<;>rfl) cCmp cSWO 60 #[] g 0 cap ks.toArray w eg (cmpLays60 g 0 _ w) hH (Array.getElem?_eq_some_iff.1 hb).1 (by
    have:=hp.length_eq
    simp only [List.size_toArray,List.length_map] at this ⊢
    omega) cTot
   change Calls Tryz.prog 59 _ _ _ at hcon
   refine hcon.mono fun e w' ⟨he,n,os,hw⟩=>?_
   subst he
   refine ⟨rfl,?_⟩
   have hs:(ks.toArray.toList.mergeSort fun x y=>!(ltOf cCmp) y x)=srtK m:=by rw [←srtK_perm hp];rfl
   rw [hs] at hw
   rw [hw]
   exact H.sorted i (fun _=>rfl) (by decide) hi hb h1 h2 (by simpa using h3) hlen
end Go.Proofs.YtcecjdnkcbfhlaaGreatDoor
