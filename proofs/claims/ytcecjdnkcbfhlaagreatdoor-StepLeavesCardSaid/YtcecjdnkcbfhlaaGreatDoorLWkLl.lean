/- Joined texts. -/
import Derived.Test.YtcecjdnkcbfhlaaGreatDoorLU0
import Derived.Test.YtcecjdnkcbfhlaaGreatDoorLWkFy
set_option linter.unusedSimpArgs false
set_option linter.unusedVariables false
set_option linter.unusedSectionVars false
namespace Go.Proofs.YtcecjdnkcbfhlaaGreatDoor
open Go.Stp Go.RowKit Go.ValP Go.Sp _root_.Go.Proofs.Tryz
set_option maxRecDepth 100000
theorem reckonerlaw14_StepLeaves_ok {x0 : List (V)} {x1 : Int} {res : Bool} {w0 : World} (hS : reckonerlaw14_StepLeaves x0 x1 = some res) {xv0 : Value} (rp0 : RdZ (hz w0) xv0 3 vL x0) (hG : GWL w0) : Calls Tryz.prog 8 [xv0, .int .i64 x1].toArray w0 (Ret fun v w => v = .bool res ∧ Ext w0 w) := by
 refine en func8 [0, 1] O2 fun Q a Zi Z hzs H h hr => ?_
 have rp0 := rp0.sub hzs
 clear hzs
 unfold reckonerlaw14_StepLeaves at hS
 refine rg fun K k => cps 1 h rfl fun a h => cz k <| sq <| rg fun K k => sC h H hS rfl (fun y2 f2 => dC call37 (reckonerlaw14_fit_ok f2 (hG.ext H.out) :)) fun y2 hS w X H a h => ?_
 refine sB h hS rfl (v_not rfl) fun z3 e3 hS a h => ?_
 refine cz k <| cI h hS rfl (fun ec4 hS => ?_) fun ec4 hS => ?_
 refine rg fun K k => cps 1 h rfl fun a h => cN k h [4] [_] fun h => ?_
 cases hS
 refine r1 hr h rfl rfl ⟨rfl, H.out⟩
 refine c_skip <| sq <| rg fun K k => cps 1 h rfl fun a h => s1 h rfl (v_len U63 rfl (rp0.at H.zin)) fun a h => ?_
 refine sB h hS rfl (v_gt rfl rfl) fun z6 e6 hS a h => ?_
 refine cN k h [0, 1, 14] O3 fun h => ?_
 refine cI h hS rfl (fun ec7 hS => ?_) fun ec7 hS => ?_
 refine rg fun K k => cps 1 h rfl fun a h => cz k ?_
 cases hS
 refine r1 hr h rfl rfl ⟨rfl, H.out⟩
 refine c_skip <| rg fun K k => cps 1 h rfl fun a h => ?_
 obtain ⟨y8, f8, hS⟩ := bo hS
 refine st2 h rfl rfl rfl (dC call23 (reckonerlaw13_Place_ok f8 H.zin rp0)) ?_
 rintro v_ w ⟨p9, rfl, ⟨lo_0, hb_0, lp0⟩, X⟩ a h
 have H := H.pushF X hb_0 lo_0
 have H : HZ w0 _ _ [_] _ := H
 refine cps 1 h rfl fun a h => cN k h [1, 5] O2 fun h => ?_
 refine rg fun K k => s1 h rfl (v_build bld30 [] O5 rfl rfl) fun a h => ?_
 refine zA h H zeroValue30 O5 (fun x => [_, x]) fun a p10 w X H h => ?_
 refine zS h H 1 Z30 O5 O5 O2 fun w H => ?_
 refine cz k <| rg fun K k => cps 1 h rfl fun a h => sI h hS rfl (v_bits_and rfl rfl) fun z11 e11 hS a h => ?_
 refine cps 1 h rfl fun a h => ?_
 obtain ⟨c12, hS⟩ := ck hS
 refine sI h hS rfl (v_shr rfl rfl c12) fun z13 e13 hS a h => ?_
 refine sI h hS rfl (v_bits_and rfl rfl) fun z14 e14 hS a h => ?_
 refine s1 h rfl (v_fieldAddr rfl U30 rfl Z28 rfl rfl) fun a h => ?_
 refine s1 h rfl (v_fieldAddr rfl U28 rfl Z3 rfl rfl) fun a h => ?_
 refine zS h H 1 Z3 [_] O5 O2 fun w H => ?_
 refine s1 h rfl (v_fieldAddr rfl U30 rfl Z28 rfl rfl) fun a h => ?_
 refine s1 h rfl (v_fieldAddr rfl U28 rfl Z3 rfl rfl) fun a h => ?_
 refine zS h H 1 Z3 [_] O5 O2 fun w H => ?_
 refine cN k h [5, 6] O2 fun h => ?_
 obtain ⟨Z, hsub, H, hz0_15⟩ := H.freezeB 0 rfl rfl
 have rp0 := rp0.sub hsub
 have H : HZ w0 _ _ O2 _ := H
 obtain ⟨J17, eJ17, hS⟩ := bv hS
 refine sqJ (fun a w => ∃ (Z : FZ) (s17 : Unit), J17 s17 = some res ∧ Fr 69 [] a ∧ HZ w0 Zi Z [.row 0 1 (.slice none 0 0) 0 [], .blk p10 (Cel [.int .i64 0, .int .i64 z11, .int .i64 z14, .bool false, .bool false] 30)] w ∧ Z p9 = some (Cel ((y8 : List V).flatMap vL) 39)) ?_ ?_
 rintro a w ⟨Z, s17, hS, h, H, hz0_15⟩
 subst eJ17
 refine rg fun K k => cps 1 h rfl fun a h => cz k ?_
 cases hS
 refine r1 hr h rfl rfl ⟨rfl, H.out⟩
 refine fl h ?_
 refine F1 rfl (fun w X => have H := H.ext X; lA H 1 isAgg30 Z30 O5) ?_
 obtain ⟨y18, f18, hS⟩ := bo hS
 refine f_op [27] rfl rfl rfl rfl false (.rel (fun w' v' => ∃ v28_19_1, v' = .agg #[.int .i64 y18.k, .int .i64 y18.op, .int .i64 y18.v.k, .int .i64 y18.v.n, S y18.v.s, .int .i64 y18.a.c.s, .int .i64 y18.a.c.c, .int .i64 y18.a.c.r, .bool y18.a.ac, .bool y18.a.ar, .int .i64 y18.b.c.s, .int .i64 y18.b.c.c, .int .i64 y18.b.c.r, .bool y18.b.ac, .bool y18.b.ar, S y18.nm, v28_19_1] ∧ RdN (ZB Z w.heap.size w') v28_19_1 nodeEnc y18.l)) (fun w w' v X h => by obtain ⟨v28_19_1, hv, hr0⟩ := h; exact ⟨_, hv, hr0.sub (ZB.grow X)⟩) (fun w X => ?_) ?_
 skip
 exact have Hs := ZB.of H.zin X; have H := H.ext X; Does.doesR (dC call25 (tree_Cell_ok (x0 := (⟨(⟨0, z11, z14⟩ : C), false, false⟩ : Rf)) f18)) (fun v w' hr => by obtain ⟨v28_19_1, hv, hr0, X'⟩ := hr; exact ⟨⟨_, hv, hr0.sub (ZB.back X X')⟩, X'⟩)
 refine F1 rfl (fun w X => have H := H.ext X; lA H 1 isAgg30 Z30 O5) ?_
 refine F1 rfl (fun w X => have H := H.ext X; lA H 1 isAgg30 Z30 O5) ?_
 obtain ⟨y20, f20, hS⟩ := bo hS
 refine f_op [29, 30] rfl rfl rfl rfl false (.rel (fun w' v' => ∃ v31_21_1, v' = .agg #[.int .i64 y20.k, .int .i64 y20.op, .int .i64 y20.v.k, .int .i64 y20.v.n, S y20.v.s, .int .i64 y20.a.c.s, .int .i64 y20.a.c.c, .int .i64 y20.a.c.r, .bool y20.a.ac, .bool y20.a.ar, .int .i64 y20.b.c.s, .int .i64 y20.b.c.c, .int .i64 y20.b.c.r, .bool y20.b.ac, .bool y20.b.ar, S y20.nm, v31_21_1] ∧ RdN (ZB Z w.heap.size w') v31_21_1 nodeEnc y20.l)) (fun w w' v X h => by obtain ⟨v31_21_1, hv, hr0⟩ := h; exact ⟨_, hv, hr0.sub (ZB.grow X)⟩) (fun w X => ?_) ?_
 skip
 exact have Hs := ZB.of H.zin X; have H := H.ext X; Does.doesR (dC call35 (tree_Span_ok (x0 := (⟨(⟨0, z11, z14⟩ : C), false, false⟩ : Rf)) (x1 := (⟨(⟨0, z11, z14⟩ : C), false, false⟩ : Rf)) f20)) (fun v w' hr => by obtain ⟨v31_21_1, hv, hr0, X'⟩ := hr; exact ⟨⟨_, hv, hr0.sub (ZB.back X X')⟩, X'⟩)
 refine F1 rfl (fun w X => v_build bld33 O2 O17 rfl rfl) ?_
 refine F1 rfl (fun w X => v_build bld33 O2 O17 rfl rfl) ?_
 refine F1 rfl (fun w X => v_build bld33 O2 O17 rfl rfl) ?_
 refine f_op [28, 31, 32, 33, 34] rfl rfl rfl rfl false (.rel (fun w' v' => RdN (ZB Z w.heap.size w') v' nodeEnc (([y18, y20, (⟨4, 0, (⟨0, 0, []⟩ : V), (⟨(⟨0, 0, 0⟩ : C), false, false⟩ : Rf), (⟨(⟨0, 0, 0⟩ : C), false, false⟩ : Rf), ([82, 65, 84, 69] : List UInt8), []⟩ : Nd), (⟨4, 0, (⟨0, 0, []⟩ : V), (⟨(⟨0, 0, 0⟩ : C), false, false⟩ : Rf), (⟨(⟨0, 0, 0⟩ : C), false, false⟩ : Rf), ([76, 73, 83, 84] : List UInt8), []⟩ : Nd), (⟨4, 0, (⟨0, 0, []⟩ : V), (⟨(⟨0, 0, 0⟩ : C), false, false⟩ : Rf), (⟨(⟨0, 0, 0⟩ : C), false, false⟩ : Rf), ([78, 79, 78, 69] : List UInt8), []⟩ : Nd)] : List (Nd))))) rn_stab (fun w X => ?_) ?_
 intro v28 h28 v31 h31
 obtain ⟨v28_19_1, rfl, r28_19_1⟩ := h28
 obtain ⟨v31_21_1, rfl, r31_21_1⟩ := h31
 exact d_sliceRN (E := nodeEnc) (data := [y18, y20, (⟨4, 0, (⟨0, 0, []⟩ : V), (⟨(⟨0, 0, 0⟩ : C), false, false⟩ : Rf), (⟨(⟨0, 0, 0⟩ : C), false, false⟩ : Rf), ([82, 65, 84, 69] : List UInt8), []⟩ : Nd), (⟨4, 0, (⟨0, 0, []⟩ : V), (⟨(⟨0, 0, 0⟩ : C), false, false⟩ : Rf), (⟨(⟨0, 0, 0⟩ : C), false, false⟩ : Rf), ([76, 73, 83, 84] : List UInt8), []⟩ : Nd), (⟨4, 0, (⟨0, 0, []⟩ : V), (⟨(⟨0, 0, 0⟩ : C), false, false⟩ : Rf), (⟨(⟨0, 0, 0⟩ : C), false, false⟩ : Rf), ([78, 79, 78, 69] : List UInt8), []⟩ : Nd)]) ([⟨(nL y18 v28_19_1), rfl⟩, ⟨(nL y20 v31_21_1), rfl⟩, ⟨[.int .i64 4, .int .i64 0, .int .i64 0, .int .i64 0, S [], .int .i64 0, .int .i64 0, .int .i64 0, .bool false, .bool false, .int .i64 0, .int .i64 0, .int .i64 0, .bool false, .bool false, S ([82, 65, 84, 69] : List UInt8), .slice none 0 0], rfl⟩, ⟨[.int .i64 4, .int .i64 0, .int .i64 0, .int .i64 0, S [], .int .i64 0, .int .i64 0, .int .i64 0, .bool false, .bool false, .int .i64 0, .int .i64 0, .int .i64 0, .bool false, .bool false, S ([76, 73, 83, 84] : List UInt8), .slice none 0 0], rfl⟩, ⟨[.int .i64 4, .int .i64 0, .int .i64 0, .int .i64 0, S [], .int .i64 0, .int .i64 0, .int .i64 0, .bool false, .bool false, .int .i64 0, .int .i64 0, .int .i64 0, .bool false, .bool false, S ([78, 79, 78, 69] : List UInt8), .slice none 0 0], rfl⟩] : List (Cl 17)) H.zin X U31 Z33 V33 rfl (zl := [.int .i64 0, .int .i64 0, .int .i64 0, .int .i64 0, S [], .int .i64 0, .int .i64 0, .int .i64 0, .bool false, .bool false, .int .i64 0, .int .i64 0, .int .i64 0, .bool false, .bool false, S [], .slice none 0 0, .int .i64 0, .int .i64 0, .int .i64 0, .int .i64 0, S [], .int .i64 0, .int .i64 0, .int .i64 0, .bool false, .bool false, .int .i64 0, .int .i64 0, .int .i64 0, .bool false, .bool false, S [], .slice none 0 0, .int .i64 0, .int .i64 0, .int .i64 0, .int .i64 0, S [], .int .i64 0, .int .i64 0, .int .i64 0, .bool false, .bool false, .int .i64 0, .int .i64 0, .int .i64 0, .bool false, .bool false, S [], .slice none 0 0, .int .i64 0, .int .i64 0, .int .i64 0, .int .i64 0, S [], .int .i64 0, .int .i64 0, .int .i64 0, .bool false, .bool false, .int .i64 0, .int .i64 0, .int .i64 0, .bool false, .bool false, S [], .slice none 0 0, .int .i64 0, .int .i64 0, .int .i64 0, .int .i64 0, S [], .int .i64 0, .int .i64 0, .int .i64 0, .bool false, .bool false, .int .i64 0, .int .i64 0, .int .i64 0, .bool false, .bool false, S [], .slice none 0 0]) kR (plA_get 5 17) [(nA y18 v28_19_1), (nA y20 v31_21_1), .agg #[.int .i64 4, .int .i64 0, .int .i64 0, .int .i64 0, S [], .int .i64 0, .int .i64 0, .int .i64 0, .bool false, .bool false, .int .i64 0, .int .i64 0, .int .i64 0, .bool false, .bool false, S ([82, 65, 84, 69] : List UInt8), .slice none 0 0], .agg #[.int .i64 4, .int .i64 0, .int .i64 0, .int .i64 0, S [], .int .i64 0, .int .i64 0, .int .i64 0, .bool false, .bool false, .int .i64 0, .int .i64 0, .int .i64 0, .bool false, .bool false, S ([76, 73, 83, 84] : List UInt8), .slice none 0 0], .agg #[.int .i64 4, .int .i64 0, .int .i64 0, .int .i64 0, S [], .int .i64 0, .int .i64 0, .int .i64 0, .bool false, .bool false, .int .i64 0, .int .i64 0, .int .i64 0, .bool false, .bool false, S ([78, 79, 78, 69] : List UInt8), .slice none 0 0]] [.int .i64 y18.k, .int .i64 y18.op, .int .i64 y18.v.k, .int .i64 y18.v.n, S y18.v.s, .int .i64 y18.a.c.s, .int .i64 y18.a.c.c, .int .i64 y18.a.c.r, .bool y18.a.ac, .bool y18.a.ar, .int .i64 y18.b.c.s, .int .i64 y18.b.c.c, .int .i64 y18.b.c.r, .bool y18.b.ac, .bool y18.b.ar, S y18.nm, v28_19_1, .int .i64 y20.k, .int .i64 y20.op, .int .i64 y20.v.k, .int .i64 y20.v.n, S y20.v.s, .int .i64 y20.a.c.s, .int .i64 y20.a.c.c, .int .i64 y20.a.c.r, .bool y20.a.ac, .bool y20.a.ar, .int .i64 y20.b.c.s, .int .i64 y20.b.c.c, .int .i64 y20.b.c.r, .bool y20.b.ac, .bool y20.b.ar, S y20.nm, v31_21_1, .int .i64 4, .int .i64 0, .int .i64 0, .int .i64 0, S [], .int .i64 0, .int .i64 0, .int .i64 0, .bool false, .bool false, .int .i64 0, .int .i64 0, .int .i64 0, .bool false, .bool false, S ([82, 65, 84, 69] : List UInt8), .slice none 0 0, .int .i64 4, .int .i64 0, .int .i64 0, .int .i64 0, S [], .int .i64 0, .int .i64 0, .int .i64 0, .bool false, .bool false, .int .i64 0, .int .i64 0, .int .i64 0, .bool false, .bool false, S ([76, 73, 83, 84] : List UInt8), .slice none 0 0, .int .i64 4, .int .i64 0, .int .i64 0, .int .i64 0, S [], .int .i64 0, .int .i64 0, .int .i64 0, .bool false, .bool false, .int .i64 0, .int .i64 0, .int .i64 0, .bool false, .bool false, S ([78, 79, 78, 69] : List UInt8), .slice none 0 0] rfl kR rfl kR ⟨node_mk ⟨_, rfl, r28_19_1⟩, node_mk ⟨_, rfl, r31_21_1⟩, node_mk ⟨_, rfl, RdN.nil⟩, node_mk ⟨_, rfl, RdN.nil⟩, node_mk ⟨_, rfl, RdN.nil⟩, trivial⟩
 refine f_op [35] rfl rfl rfl rfl false (.eq (.int .i64 ((([y18, y20, (⟨4, 0, (⟨0, 0, []⟩ : V), (⟨(⟨0, 0, 0⟩ : C), false, false⟩ : Rf), (⟨(⟨0, 0, 0⟩ : C), false, false⟩ : Rf), ([82, 65, 84, 69] : List UInt8), []⟩ : Nd), (⟨4, 0, (⟨0, 0, []⟩ : V), (⟨(⟨0, 0, 0⟩ : C), false, false⟩ : Rf), (⟨(⟨0, 0, 0⟩ : C), false, false⟩ : Rf), ([76, 73, 83, 84] : List UInt8), []⟩ : Nd), (⟨4, 0, (⟨0, 0, []⟩ : V), (⟨(⟨0, 0, 0⟩ : C), false, false⟩ : Rf), (⟨(⟨0, 0, 0⟩ : C), false, false⟩ : Rf), ([78, 79, 78, 69] : List UInt8), []⟩ : Nd)]).length : Int)))) trivial (fun w X => ?_) ?_
 intro v35 h35
 exact have H := H.ext X; (v_lenN U31 rfl h35 (ZB.inn H.zin)).doesF
 refine fcps 1 rfl ?_
 refine fn_ ?_
 intro a w X hR hA
 obtain ⟨v35_22, r35_22, h⟩ := hR.out [5, 35, 36, 37]
 have h : Fr 69 [(37, _), (36, _), (35, _), (5, _)] a := h
 obtain ⟨Z, hsub, hadd, H⟩ := H.adopt' X
 have rp0 := rp0.sub hsub
 have hz0_15 := hsub _ _ hz0_15
 have r35_22 := r35_22.sub hadd
 refine lb ?_
 obtain ⟨B24, eB24, hS⟩ := bv hS
 refine lpJ (fun mu_ a w => ∃ (Z : FZ) (s24 : Int), loopF B24 mu_ s24 = some res ∧ Fr 69 [(5, (pt p9)), (35, v35_22), (36, .int .i64 ((([y18, y20, (⟨4, 0, (⟨0, 0, []⟩ : V), (⟨(⟨0, 0, 0⟩ : C), false, false⟩ : Rf), (⟨(⟨0, 0, 0⟩ : C), false, false⟩ : Rf), ([82, 65, 84, 69] : List UInt8), []⟩ : Nd), (⟨4, 0, (⟨0, 0, []⟩ : V), (⟨(⟨0, 0, 0⟩ : C), false, false⟩ : Rf), (⟨(⟨0, 0, 0⟩ : C), false, false⟩ : Rf), ([76, 73, 83, 84] : List UInt8), []⟩ : Nd), (⟨4, 0, (⟨0, 0, []⟩ : V), (⟨(⟨0, 0, 0⟩ : C), false, false⟩ : Rf), (⟨(⟨0, 0, 0⟩ : C), false, false⟩ : Rf), ([78, 79, 78, 69] : List UInt8), []⟩ : Nd)]).length : Int))), (37, .int .i64 s24)] a ∧ HZ w0 Zi Z [.row 0 1 (.slice none 0 0) 0 [], .blk p10 (Cel [.int .i64 0, .int .i64 z11, .int .i64 z14, .bool false, .bool false] 30)] w ∧ RdN Z v35_22 nodeEnc ([y18, y20, (⟨4, 0, (⟨0, 0, []⟩ : V), (⟨(⟨0, 0, 0⟩ : C), false, false⟩ : Rf), (⟨(⟨0, 0, 0⟩ : C), false, false⟩ : Rf), ([82, 65, 84, 69] : List UInt8), []⟩ : Nd), (⟨4, 0, (⟨0, 0, []⟩ : V), (⟨(⟨0, 0, 0⟩ : C), false, false⟩ : Rf), (⟨(⟨0, 0, 0⟩ : C), false, false⟩ : Rf), ([76, 73, 83, 84] : List UInt8), []⟩ : Nd), (⟨4, 0, (⟨0, 0, []⟩ : V), (⟨(⟨0, 0, 0⟩ : C), false, false⟩ : Rf), (⟨(⟨0, 0, 0⟩ : C), false, false⟩ : Rf), ([78, 79, 78, 69] : List UInt8), []⟩ : Nd)]) ∧ Z p9 = some (Cel ((y8 : List V).flatMap vL) 39)) KK ⟨_, _, hS, h.to, H, r35_22, hz0_15⟩ ?_
 rintro mu_ a w ⟨Z, s24, hS, h, H, r35_22, hz0_15⟩
 obtain ⟨mu_, rfl, n24, en24, hS⟩ := lpX eB24 hS
 refine rg fun K k => sB h hS rfl (v_lt rfl rfl) fun z26 e26 hS a h => ?_
 refine cz k <| sq <| cI h hS rfl (fun ec28 hS => ?_) fun ec28 hS => ?_
 refine c_skip <| sb ?_
 refine rg fun K k => ?_
 obtain ⟨c30, hS⟩ := ck hS
 obtain ⟨z31, e31, hS⟩ := bv hS
 have q_32 := r35_22.gel ⟨_, nodeEnc_dflt⟩ s24
 rw [← e31] at q_32
 obtain ⟨css_32, cl_32, rc_32, hc_32, q_32⟩ := q_32
 obtain ⟨v39_32_1, hcs_32, r39_32_1⟩ := node_op q_32
 refine st_idxC h U31 Z33 rfl rfl (rc_32.at H.zin) c30.1 (hc_32 c30) hcs_32 rfl fun a v39 A39 h => ?_
 refine s1 h rfl (v_loadAtA O17 rfl A39 A33 Z33 rfl rfl) fun a h => ?_
 refine zA h H V33 O17 (fun x => [_, _, x]) fun a p33 w X H h => ?_
 have A39 := At.ext A39 X
 refine z_store h H 2 rfl rfl rfl Z33 O17 rfl rfl (by obtain ⟨_, _, _, e_⟩ := (r39_32_1).form; subst e_; rfl) (by simp) O17 rfl (hl' := O3) rfl fun w H => ?_
 refine cz k <| rg fun K k => s1 h rfl (lA H 2 A33 Z33 O17) fun a h => ?_
 refine cps 1 h rfl fun a h => s1 h rfl (v_mkIface mkI rfl) fun a h => ?_
 obtain ⟨y34, f34, hS⟩ := bo hS
 refine st2 h rfl rfl rfl (dC call38 (step_All_ok f34 H.zin r39_32_1 hz0_15 lp0 (hG.ext H.out))) ?_
 rintro v44_36_1 w ⟨r44_36_1, X⟩ a h
 obtain ⟨Z, hsub, hadd, H⟩ := H.adopt' X
 have r35_22 := r35_22.sub hsub
 have r39_32_1 := r39_32_1.sub hsub
 have hz0_15 := hsub _ _ hz0_15
 have r44_36_1 := r44_36_1.sub hadd
 refine cps 1 h rfl fun a h => cN k h [5, 8, 9, 35, 36, 37] O6 fun h => ?_
 refine fl h ?_
 refine fcps 1 rfl ?_
 refine F1 rfl (fun w X => have H := H.ext X; v_lenN U31 rfl r44_36_1 H.zin) ?_
 refine fB hS rfl (fun w X => v_ne rfl rfl) fun z37 e37 hS => ?_
 refine fcps 1 rfl ?_
 refine f_g [9, 48] rfl rfl rfl (gF rfl) rfl rfl (fun e0 w X => v_move rfl) ?_
 obtain ⟨c38, hS⟩ := ck hS
 obtain ⟨z39, e39, hS⟩ := bv hS
 have q_40 := r44_36_1.gel ⟨_, nodeEnc_dflt⟩ 1
 rw [← e39] at q_40
 obtain ⟨css_40, cl_40, rc_40, hc_40, q_40⟩ := q_40
 obtain ⟨v50_40_1, hcs_40, r50_40_1⟩ := node_op q_40
 refine f_gR (R := (fun w' v' => At w' v' (fun _ : Unit => (nL z39 v50_40_1)) () 0)) (c := !z37) [49, 48] rfl rfl rfl rfl rfl at_stab (fun w X => ?_) ?_
 skip
 exact ⟨(gF rfl), fun e0 => have H := H.ext X; d_idxC U31 Z33 (eg e0 rfl) rfl (rc_40.at H.zin) (c38 e0).1 (hc_40 (c38 e0)) hcs_40⟩
 refine f_gR (R := (fun w' v' => At w' v' (fun _ : Unit => (nL z39 v50_40_1)) () 0)) (c := !z37) [50, 48] rfl rfl rfl rfl rfl at_stab (fun w X => ?_) ?_
 intro v50 h50
 exact ⟨(gF rfl), fun e0 => d_field rfl (h50 e0) U33 rfl Z3 rfl rfl⟩
 refine f_gE (V := .int .i64 z39.k) (c := !z37) [51, 48] rfl rfl rfl rfl rfl (fun w X => ?_) ?_
 intro v51 h51
 exact ⟨(gF rfl), fun e0 => (v_loadAt1 rfl (h51 e0) A3 rfl).doesF⟩
 obtain ⟨z41, e41, hS⟩ := bv hS
 refine f_g [52, 48] rfl rfl rfl (gF rfl) rfl rfl (fun e0 w X => vB e41 (v_ne (eg e0 rfl) rfl)) ?_
 refine fB hS rfl (fun w X => v_or rfl rfl) fun z42 e42 hS => ?_
 refine fcps 1 rfl ?_
 refine f_g [9, 55] rfl rfl rfl (gF rfl) rfl rfl (fun e0 w X => v_move rfl) ?_
 obtain ⟨c43, hS⟩ := ck hS
 obtain ⟨z44, e44, hS⟩ := bv hS
 have q_45 := r44_36_1.gel ⟨_, nodeEnc_dflt⟩ 1
 rw [← e44] at q_45
 obtain ⟨css_45, cl_45, rc_45, hc_45, q_45⟩ := q_45
 obtain ⟨v57_45_1, hcs_45, r57_45_1⟩ := node_op q_45
 refine f_gR (R := (fun w' v' => At w' v' (fun _ : Unit => (nL z44 v57_45_1)) () 0)) (c := !z42) [56, 55] rfl rfl rfl rfl rfl at_stab (fun w X => ?_) ?_
 skip
 exact ⟨(gF rfl), fun e0 => have H := H.ext X; d_idxC U31 Z33 (eg e0 rfl) rfl (rc_45.at H.zin) (c43 e0).1 (hc_45 (c43 e0)) hcs_45⟩
 refine f_gR (R := (fun w' v' => At w' v' (fun _ : Unit => (nL z44 v57_45_1)) () 2)) (c := !z42) [57, 55] rfl rfl rfl rfl rfl at_stab (fun w X => ?_) ?_
 intro v57 h57
 exact ⟨(gF rfl), fun e0 => d_field rfl (h57 e0) U33 rfl Z26 rfl rfl⟩
 refine f_gE (V := (vA z44.v)) (c := !z42) [58, 55] rfl rfl rfl rfl rfl (fun w X => ?_) ?_
 intro v58 h58
 exact ⟨(gF rfl), fun e0 => (v_loadAtA O3 rfl (h58 e0) A26 Z26 rfl rfl).doesF⟩
 refine f_g [8, 55] rfl rfl rfl (gF rfl) rfl rfl (fun e0 w X => have H := H.ext X; lA H 2 A33 Z33 O17) ?_
 refine f_g [55] rfl rfl rfl (gF rfl) rfl rfl (fun e0 w X => v_build bld28 [] O3 evs_n rfl) ?_
 refine f_g [5, 55] rfl rfl rfl (gF rfl) rfl rfl (fun e0 w X => v_move rfl) ?_
 refine f_g [62, 55] rfl rfl rfl (gF rfl) rfl rfl (fun e0 w X => v_mkIface mkI (eg e0 rfl)) ?_
 obtain ⟨y46, f46, hS⟩ := bo hS
 refine f_gR (R := (fun w' v' => ∃ v64_47_1, v' = .agg #[.int .i64 y46.v.k, .int .i64 y46.v.n, S y46.v.s, .int .i64 y46.c.s, .int .i64 y46.c.c, .int .i64 y46.c.r, v64_47_1] ∧ RdZ (ZB Z w.heap.size w') v64_47_1 3 cL y46.l)) (c := !z42) [60, 61, 63, 55] rfl rfl rfl rfl rfl (fun w w' v X h => by obtain ⟨v64_47_1, hv, hr0⟩ := h; exact ⟨_, hv, hr0.sub (ZB.grow X)⟩) (fun w X => ?_) ?_
 skip
 exact ⟨(gF rfl), fun e0 => have Hs := ZB.of H.zin X; have H := H.ext X; Does.doesR (d_call O3 (evs_c (eg e0 rfl) (evs_c (eg e0 rfl) (evs_c (eg e0 rfl) evs_n))) call19 (eval_Eval_ok (ifT e0 f46) (ZB.inn H.zin) (r39_32_1.sub Hs) (Hs _ _ hz0_15) lp0 (hG.ext H.out))) (fun v w' hr => by obtain ⟨v64_47_1, hv, hr0, X'⟩ := hr; exact ⟨⟨_, hv, hr0.sub (ZB.back X X')⟩, X'⟩)⟩
 refine f_gE (V := (vA y46.v)) (c := !z42) [64, 55] rfl rfl rfl rfl rfl (fun w X => ?_) ?_
 intro v64 h64
 refine ⟨(gF rfl), fun e0 => ?_⟩
 obtain ⟨v64_47_1, rfl, r64_47_1⟩ := h64 e0
 exact (v_fieldA O3 rfl underlying51 rfl A26 Z26 rfl).doesF
 obtain ⟨z48, e48, hS⟩ := bv hS
 refine f_g [59, 65, 55] rfl rfl rfl (gF rfl) rfl rfl (fun e0 w X => vB e48 (v_aggne (eg e0 rfl) (eg e0 rfl) age26 (agq26 _ _ _ _ _ _))) ?_
 refine fB hS rfl (fun w X => v_or rfl rfl) fun z49 e49 hS => ?_
 refine fE [5, 35, 36, 37, 67] O5 H fun a w X H h => ?_
 refine cI h hS rfl (fun ec50 hS => ?_) fun ec50 hS => ?_
 refine rg fun K k => cps 1 h rfl fun a h => cN k h [4] [_] fun h => ?_
 cases hS
 refine r1 hr h rfl rfl ⟨rfl, H.out⟩
 refine c_skip <| c_lregion <| sI h hS rfl (v_addw rfl rfl) fun z51 e51 hS a h => ?_
 refine cps 1 h rfl fun a h => c_lnil ?_
 exact exL (ex2 ⟨lpN en24 hS, h.to, (H.keepN 2 rfl), r35_22, hz0_15⟩)
 exact c_exit (exU1 ⟨hS, h.to, H, hz0_15⟩)
end Go.Proofs.YtcecjdnkcbfhlaaGreatDoor
