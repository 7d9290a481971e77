/- Proved here: the law StepMeans of the package reckonerlaw14 returns true for every argument of its types, does not panic, and leaves its arguments as they were (the card StepMeansCardSaid). Its conditions: those of the given row and card and no other: the listed package-level variables read as the row says when the call begins. -/
import Derived.Test.YtnllbjchcfpmpaaGreatDoorCards
import Derived.Test.YtnllbjchcfpmpaaGreatDoorTie
import Derived.Test.YtnllbjchcfpmpaaGreatDoorMP1
import Derived.Test.YtnllbjchcfpmpaaGreatDoorMT0
import Derived.Test.YtnllbjchcfpmpaaGreatDoorMWkMe
set_option linter.all false
namespace Go.Proofs.YtnllbjchcfpmpaaGreatDoor.stepMeans
open Go.ChangeShapes Go.WideShapes Go.ChangeAt Go.RowKit Go.Stp
open Go.ChangeMaps (open_string shut_string)
theorem own:ownKnob Tryz.prog.godebug=none:=by kernel_rfl
set_option maxRecDepth 100000
theorem yt(H:Type) (enc:TypeId × Value->H) (W:World) (base:Nat) (args:Array Value) (ds gs:List (DataW H)) (g:List MemPlace)
 (f:∀(j:Nat) t v,Tryz.f3.params[j]?=some t->args[j]?=some v->Value.okWide Tryz.prog W .any base t v)
 (hW:DataW.Whole enc Tryz.prog Tryz.f3.params.toList Rows.stepMeansSpec.vars false W args.toList ds gs g) (hL:laidMetH Tryz.prog Rows.stepMeansRow.laid W) (G:W.ShapedOpen Tryz.prog) :
 Calls Tryz.prog 3 args W λe J=>∃v,e=.returned v/\Rows.stepMeansSpec.post enc Tryz.prog Tryz.f3 false true false false W args v J:=by
 have u:=hW
 obtain⟨p,q,E,F,rfl,_,_⟩:=hW
 have hA:DataW.TrodAll enc Tryz.prog W 0 (λ_=>true) true Tryz.f3.params.toList args.toList ds p:=E
 rw[Tryz.params3]at hA f
 obtain⟨v0,ad,d0,af,p0,q0,Y,rfl,rfl,h0,r0⟩:=trodAll_cons hA
 obtain⟨v1,ao,d1,b0,p1,q1,rfl,rfl,rfl,h1,r1⟩:=trodAll_cons r0
 obtain⟨rfl,rfl,rfl⟩:=trodAll_nil r1
 obtain rfl:args=#[v0,v1]:=by cases args;simp_all
 obtain⟨rfl,rfl⟩:=trodVars_none F
 obtain⟨l0,a1,b1,a6⟩:=wY (f 0 23 v0 rfl rfl) h0
 obtain⟨l1,a7,a8⟩:=AA (f 1 24 v1 rfl rfl) h1
 clear E F
 have hG:Go.Proofs.YtnllbjchcfpmpaaGreatDoor.jY W:=yA hL (Tryz.zI.s1_3 W G)
 refine(jk (x0:=l0) (x1:=l1) (Go.Sp.pX _ _ a6 a8) a1 a7 hG).mono ?_
 intro e J hR
 obtain⟨v,rfl,rfl,X⟩:∃v,e=.returned v/\v=.bool true/\Ext W J:=by
  cases e with
  |returned v=>exact⟨_,O,hR⟩
  |_=>exact hR.elim
 refine⟨_,O,_,_,_,[],(p0++(p1++[])),[],u,?_,?_,?_,Below.frame X _,λh=>by cases h⟩
 ·exact trodAll_mk1 (shut_bool Tryz.underlying4 _)
 ·exact trodAll_cons_mk (Below.trod laidOut (by kernel_rfl) (of_decide_eq_true (by kernel_rfl)) h0 X (λx hx=>u.lt x (by simp[hx]))) (trodAll_cons_mk (Below.trod laidOut (by kernel_rfl) (of_decide_eq_true (by kernel_rfl)) h1 X (λx hx=>u.lt x (by simp[hx]))) trodAll_mk0)
 ·rfl
set_option maxHeartbeats 4000000 in
theorem closed:joinedFacts Tryz.pinned.checked.prog 3 Tryz.f3 (OpenSpec.ofChange Rows.stepMeansSpec).bare Rows.stepMeansRow=true:=by
 unfold joinedFacts
 simp only[Bool.and_eq_true]
 repeat' apply And.intro
 all_goals(as_aux_lemma=>kernel_rfl)
theorem reads(os:Os) (H:Type) (enc:TypeId × Value->H):∃places,DataW.whole enc Tryz.prog ((world os).forCall (λ_ _=>0) ⟨#[],#[.slice none 0 0,.slice none 0 0],[]⟩).memory Tryz.f3.params.toList Rows.stepMeansSpec.vars false (#[.slice none 0 0,.slice none 0 0]:Array Value).toList 8=some ([.nil,.nil],[],places):=
 ⟨[],by kernel_rfl⟩
theorem lifted(os:Os) (f:os.Started) (H:Type) (enc:TypeId × Value->H) (F:Stop.Interp) :
 ReturnsInHanded {} Tryz.checked os 3 .any ((OpenSpec.ofChange Rows.stepMeansSpec).preRow enc Tryz.prog Tryz.f3 Rows.stepMeansRow.domain false Rows.stepMeansRow.laid) (((OpenSpec.ofChange Rows.stepMeansSpec).at F).post enc Tryz.prog Tryz.f3 false true false false):=by
 obtain⟨places,G⟩:=reads os H enc
 refine returnsInHanded_of_row (C:=Tryz.checked) (s:=OpenSpec.ofChange Rows.stepMeansSpec) own f (by kernel_rfl) Tryz.func3
  (witness_row_atRef (enc:=enc) (C:=Tryz.checked) false (world os) #[.slice none 0 0,.slice none 0 0] rfl (uP os _) (vF os _) (by kernel_rfl)
   (OpenSpec.preRow_of_cond 8 G (by kernel_rfl) (λk J=>by cases J) (by kernel_rfl) (xE os _))) ?_
 intro W base args ds X g u Y _ _ _ hL E _
 exact yt H enc W base args ds X g u Y hL E
theorem said:Rows.StepMeansSaid:=
 OpenClaim.holds_of_cond 3 Tryz.f3 rfl rfl rfl rfl rfl rfl rfl ⟨rfl,rfl,rfl,rfl,rfl⟩ rfl rfl rfl rfl rfl (by kernel_rfl) Tryz.func3 closed
  (of_decide_eq_true (by kernel_rfl)) (by unfold Func.isWrapper;first|(rw[if_pos (by decide +kernel)];kernel_rfl)|(rw[if_neg (by decide +kernel)];exact⟨O,O⟩))
  (λos f H g _ F=>by rw[OpenClaim.pre_eq_preRow];exact lifted os f H g F)
theorem plain(f:FuncId) (fn:Func) (G:Tryz.pinned.checked.prog.funcNamed "reckoner/reckonerlaw14.StepMeans" = some f) (E:Tryz.pinned.checked.prog.funcs[f]?=some fn) :
 true=Tryz.pinned.checked.prog.looks []/\∀(j:Nat) t,fn.params[j]?=some t->Tryz.pinned.checked.prog.wantsStandIn t=false:=by
 obtain rfl:f=3:=Option.some.inj ((show Tryz.prog.funcNamed "reckoner/reckonerlaw14.StepMeans" = some 3 by kernel_rfl).symm.trans G) |>.symm
 obtain rfl:fn=Tryz.f3:=(Option.some.inj (Tryz.func3.symm.trans E)).symm
 refine⟨by kernel_rfl,λj t F=>?_⟩
 rw[Tryz.params3]at F
 have H:t∈[23,24]:=by simpa using Array.mem_of_getElem? F
 have g:([23,24].all λu=>!Tryz.prog.wantsStandIn u)=true:=by kernel_rfl
 exact(show Tryz.prog.wantsStandIn t=false by simpa using List.all_eq_true.1 g t H)
theorem card:Rows.StepMeansCardSaid:=
 Claim7.holds_tied_plain_at .later [] _ _ _ _ said (λ_ h=>by cases h) (by kernel_rfl) (λ_ h=>by cases h) stepMeans_row_tie rfl ⟨rfl,rfl⟩ (by kernel_rfl) rfl plain (by kernel_rfl)
end Go.Proofs.YtnllbjchcfpmpaaGreatDoor.stepMeans
