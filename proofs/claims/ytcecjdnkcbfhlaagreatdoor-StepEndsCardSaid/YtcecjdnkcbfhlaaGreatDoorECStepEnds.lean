/- Joined texts. -/
import Derived.Test.YtcecjdnkcbfhlaaGreatDoorCards
import Derived.Test.YtcecjdnkcbfhlaaGreatDoorTie
import Derived.WalkKit
import Derived.ProofKit
import Derived.OpenShut
import Derived.LaidMore
import Derived.Deep.DeepHandedRow
import Derived.Deep.DeepWitnessRowRef
import Derived.Test.YtcecjdnkcbfhlaaGreatDoorEP0
import Derived.Test.YtcecjdnkcbfhlaaGreatDoorET0
import Derived.Test.YtcecjdnkcbfhlaaGreatDoorEWkLo
set_option linter.unusedSimpArgs false
set_option linter.unusedVariables false
set_option linter.unusedSectionVars false
namespace Go.Proofs.YtcecjdnkcbfhlaaGreatDoor.stepEnds
open Go.ChangeShapes Go.WideShapes Go.ChangeAt Go.RowKit Go.Stp
open Go.ChangeMaps (open_string shut_string)
theorem own:ownKnob Tryz.prog.godebug=none:=by kernel_rfl
set_option maxRecDepth 100000
theorem contract (H:Type) (enc:TypeId × Value→H) (W:World) (base:Nat) (args:Array Value) (ds gs:List (DataW H)) (before:List MemPlace)
 (hval:∀ (j:Nat) t v,Tryz.f9.params[j]?=some t→args[j]?=some v→Value.okWide Tryz.prog W .any base t v)
 (hW:DataW.Whole enc Tryz.prog Tryz.f9.params.toList Rows.stepEndsSpec.vars false W args.toList ds gs before) (hL:laidMetH Tryz.prog Rows.stepEndsRow.laid W) (hsh:W.ShapedOpen Tryz.prog) :
 Calls Tryz.prog 9 args W fun e W'=>∃ v,e=.returned v∧Rows.stepEndsSpec.post enc Tryz.prog Tryz.f9 false true false false W args v W':=by
 have hW':=hW
 obtain ⟨p,q,hA0,hV0,rfl,_,_⟩:=hW
 have hA:DataW.TrodAll enc Tryz.prog W 0 (fun _=>true) true Tryz.f9.params.toList args.toList ds p:=hA0
 rw [Tryz.params9] at hA hval
 obtain ⟨v0,vs0,d0,ds0,p0,q0,hargs,rfl,rfl,h0,r0⟩:=trodAll_cons hA
 obtain ⟨v1,vs1,d1,ds1,p1,q1,rfl,rfl,rfl,h1,r1⟩:=trodAll_cons r0
 obtain ⟨rfl,rfl,rfl⟩:=trodAll_nil r1
 obtain rfl:args=#[v0,v1]:=by cases args;simp_all
 obtain ⟨rfl,rfl⟩:=trodVars_none hV0
 obtain ⟨l0,rp0,rl0,rb0⟩:=open_Seed (hval 0 23 v0 rfl rfl) h0
 obtain ⟨l1,rp1,rb1⟩:=open_VL (hval 1 63 v1 rfl rfl) h1
 clear hA0 hV0
 have hG:Go.Proofs.YtcecjdnkcbfhlaaGreatDoor.GWL W:=gwl_laid hL (Tryz.laysM143.s1_3 W hsh)
 refine (reckonerlaw14_StepEnds_ok (x0:=l0) (x1:=l1) (Go.Sp.StepEnds_true _ _ rb0 rb1) rp0 rp1 hG).mono ?_
 intro e W' hR
 obtain ⟨v,rfl,rfl,X⟩:∃ v,e=.returned v∧v=.bool true∧Ext W W':=by
  cases e with
  |returned v=>exact ⟨_,rfl,hR⟩
  |_=>exact hR.elim
 refine ⟨_,rfl,_,_,_,[],(p0++(p1++[])),[],hW',?_,?_,?_,Below.frame X _,fun h=>by cases h⟩
 · exact trodAll_mk1 (shut_bool Tryz.underlying4 _)
 · exact trodAll_cons_mk (Below.trod laidOut (by kernel_rfl) (of_decide_eq_true (by kernel_rfl)) h0 X (fun x hx=>hW'.lt x (by simp [hx]))) (trodAll_cons_mk (Below.trod laidOut (by kernel_rfl) (of_decide_eq_true (by kernel_rfl)) h1 X (fun x hx=>hW'.lt x (by simp [hx]))) trodAll_mk0)
 · rfl
set_option maxHeartbeats 4000000 in
theorem closed:joinedFacts Tryz.pinned.checked.prog 9 Tryz.f9 (OpenSpec.ofChange Rows.stepEndsSpec).bare Rows.stepEndsRow=true:=by
 unfold joinedFacts
 simp only [Bool.and_eq_true]
 repeat' apply And.intro
 all_goals (as_aux_lemma=>kernel_rfl)
theorem reads (os:Os) (H:Type) (enc:TypeId × Value→H):∃ places,DataW.whole enc Tryz.prog ((world os).forCall (fun _ _=>0) ⟨#[],#[.slice none 0 0,.slice none 0 0],[]⟩).memory Tryz.f9.params.toList Rows.stepEndsSpec.vars false (#[.slice none 0 0,.slice none 0 0]:Array Value).toList 8=some ([.nil,.nil],[],places):=
 ⟨[],by kernel_rfl⟩
theorem lifted (os:Os) (started:os.Started) (H:Type) (enc:TypeId × Value→H) (F:Stop.Interp) :
 ReturnsInHanded {} Tryz.checked os 9 .any ((OpenSpec.ofChange Rows.stepEndsSpec).preRow enc Tryz.prog Tryz.f9 Rows.stepEndsRow.domain false Rows.stepEndsRow.laid) (((OpenSpec.ofChange Rows.stepEndsSpec).at F).post enc Tryz.prog Tryz.f9 false true false false):=by
 obtain ⟨places,hx⟩:=reads os H enc
 refine returnsInHanded_of_row (C:=Tryz.checked) (s:=OpenSpec.ofChange Rows.stepEndsSpec) own started (by kernel_rfl) Tryz.func9
  (witness_row_atRef (enc:=enc) (C:=Tryz.checked) false (world os) #[.slice none 0 0,.slice none 0 0] rfl (world_vars os _) (world_rest os _) (by kernel_rfl)
   (OpenSpec.preRow_of_cond 8 hx (by kernel_rfl) (fun k hk=>by cases hk) (by kernel_rfl) (world_met os _))) ?_
 intro W base args ds gs before hval hW _ _ _ hL hsh _
 exact contract H enc W base args ds gs before hval hW hL hsh
theorem said:Rows.StepEndsSaid:=
 OpenClaim.holds_of_cond 9 Tryz.f9 rfl rfl rfl rfl rfl rfl rfl ⟨rfl,rfl,rfl,rfl,rfl⟩ rfl rfl rfl rfl rfl (by kernel_rfl) Tryz.func9 closed
  (of_decide_eq_true (by kernel_rfl)) (by unfold Func.isWrapper;first|(rw [if_pos (by decide +kernel)];kernel_rfl)|(rw [if_neg (by decide +kernel)];exact ⟨rfl,rfl⟩))
  (fun os started H enc _ F=>by rw [OpenClaim.pre_eq_preRow];exact lifted os started H enc F)
theorem plain (f:FuncId) (fn:Func) (hf:Tryz.pinned.checked.prog.funcNamed "reckoner/reckonerlaw14.StepEnds" = some f) (hfn:Tryz.pinned.checked.prog.funcs[f]?=some fn) :
 true=Tryz.pinned.checked.prog.looks []∧∀ (j:Nat) t,fn.params[j]?=some t→Tryz.pinned.checked.prog.wantsStandIn t=false:=by
 obtain rfl:f=9:=Option.some.inj ((show Tryz.prog.funcNamed "reckoner/reckonerlaw14.StepEnds" = some 9 by kernel_rfl).symm.trans hf) |>.symm
 obtain rfl:fn=Tryz.f9:=(Option.some.inj (Tryz.func9.symm.trans hfn)).symm
 refine ⟨by kernel_rfl,fun j t ht=>?_⟩
 rw [Tryz.params9] at ht
 have hm:t∈[23,63]:=by simpa using Array.mem_of_getElem? ht
 have hall:([23,63].all fun u=>!Tryz.prog.wantsStandIn u)=true:=by kernel_rfl
 exact (show Tryz.prog.wantsStandIn t=false by simpa using List.all_eq_true.1 hall t hm)
theorem card:Rows.StepEndsCardSaid:=
 Claim7.holds_tied_plain_at .later [] _ _ _ _ said (fun _ h=>by cases h) (by kernel_rfl) (fun _ h=>by cases h) stepEnds_row_tie rfl ⟨rfl,rfl⟩ (by kernel_rfl) rfl plain (by kernel_rfl)
end Go.Proofs.YtcecjdnkcbfhlaaGreatDoor.stepEnds
