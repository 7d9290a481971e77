/- Joined texts. -/
import Derived.Test.YtcecjdnkcbfhlaaGreatDoorYM0
import Derived.Test.YtcecjdnkcbfhlaaGreatDoorYU0
import Derived.Test.YtcecjdnkcbfhlaaGreatDoorYWkBo
import Derived.Test.YtcecjdnkcbfhlaaGreatDoorYWkFm
set_option linter.unusedSimpArgs false
set_option linter.unusedVariables false
set_option linter.unusedSectionVars false
namespace Go.Proofs.YtcecjdnkcbfhlaaGreatDoor
open Go.Stp Go.RowKit Go.ValP Go.Sp _root_.Go.Proofs.Tryz
set_option maxRecDepth 100000
set_option maxHeartbeats 2000000
theorem reckonerlaw13_EvalNames_1_ok {x0 : Nd} {x1 : List V} {res : Rs} {w0 : World} (hS : reckonerlaw13_EvalNames_1 x0 x1 = some res) {Z : FZ} (hZ : Z.inn w0) {xv0 : Value} (rp0 : RdN Z xv0 nodeEnc x0.l) {pc1 pb1 : Nat} (hc1 : Z pc1 = some (Cel [.pointer (some ⟨pb1, 0, none⟩)] 35)) (hp1 : Z pb1 = some (Cel ((x1 : List V).flatMap vL) 39)) (lp1 : x1.length = 128) (hG : GW w0) : Calls Tryz.prog 33 [.agg #[.int .i64 x0.k, .int .i64 x0.op, .int .i64 x0.v.k, .int .i64 x0.v.n, S x0.v.s, .int .i64 x0.a.c.s, .int .i64 x0.a.c.c, .int .i64 x0.a.c.r, .bool x0.a.ac, .bool x0.a.ar, .int .i64 x0.b.c.s, .int .i64 x0.b.c.c, .int .i64 x0.b.c.r, .bool x0.b.ac, .bool x0.b.ar, S x0.nm, xv0], .pointer (some ⟨pc1, 0, none⟩)].toArray w0 (Ret fun v w => ∃ u1, v = .agg #[.int .i64 res.v.k, .int .i64 res.v.n, S res.v.s, .int .i64 res.c.s, .int .i64 res.c.c, .int .i64 res.c.r, u1] ∧ RdZ (ZB Z0 w0.heap.size w) u1 3 cL res.l ∧ Ext w0 w) := by
 refine enS hZ func33 [0, 1] [_, _] fun Q a Zi eZi H h hr => ?_
 try rw [← eZi] at hr
 clear eZi
 unfold reckonerlaw13_EvalNames_1 at hS
 refine rg fun K k => z_box h H rfl [_, _, _, _, _, _, _, _, _, _, _, _, _, _, _, _, _] rfl rfl fun a p1 w X H h => ?_
 have H : HZ w0 _ _ [_] _ := H
 refine zA h H zeroValue51 [_, _, _, _, _, _, _] (fun x => [_, x]) fun a p2 w X H h => ?_
 refine cz k <| rg fun K k => s1 h rfl (lA H 0 isAgg33 sizeOf33 [_, _, _, _, _, _, _, _, _, _, _, _, _, _, _, _, _]) fun a h => ?_
 refine s1 h rfl (v_build bld28 [_] [_, _, _] rfl rfl) fun a h => ?_
 refine s1 h rfl (v_load1 rfl isAgg35 (H.zin _ _ hc1) rfl) fun a h => ?_
 refine s1 h rfl (v_mkIface mkI rfl) fun a h => ?_
 obtain ⟨y3, f3, hS⟩ := bo hS
 refine st2 h rfl rfl rfl (dC call19 (eval_Eval_ok f3 H.zin rp0 hp1 lp1 (hG.ext H.out))) ?_
 rintro v_ w ⟨v8_4_1, rfl, r8_4_1, X⟩ a h
 obtain ⟨Z, hsub, hadd, nw_, H⟩ := H.adoptN X
 have rp0 := rp0.sub hsub
 have hc1 := hsub _ _ hc1
 have hp1 := hsub _ _ hp1
 have nr8_4_1 := nw_ r8_4_1
 have r8_4_1 := r8_4_1.sub (ZB.empty.trans hadd)
 refine z_store h H 1 rfl rfl rfl sizeOf51 [_, _, _, _, _, _, _] rfl rfl (by obtain ⟨_, _, _, e_⟩ := (r8_4_1).form; subst e_; rfl) (by simp) [_, _, _, _, _, _, _] rfl (hl' := [_, _]) rfl fun w H => ?_
 refine cN k h [3] [_] fun h => ?_
 cases hS
 refine r1 hr h rfl (rvA H 1 isAgg51 sizeOf51 [_, _, _, _, _, _, _]) ⟨_, rfl, nr8_4_1.out H, H.out⟩
theorem reckonerlaw13_EvalNames_ok {x0 : List (V)} {x1 : List (Int)} {res : Bool} {w0 : World} (hS : reckonerlaw13_EvalNames x0 x1 = some res) {xv0 : Value} (rp0 : RdZ (hz w0) xv0 3 vL x0) {xv1 : Value} (rp1 : RdZ (hz w0) xv1 1 (eI .u8) x1) (hG : GW w0) : Calls Tryz.prog 7 [xv0, xv1].toArray w0 (Ret fun v w => v = .bool res ∧ Ext w0 w) := by
 refine en func7 [0, 1] [_, _] fun Q a Zi Z hzs H h hr => ?_
 have rp0 := rp0.sub hzs
 have rp1 := rp1.sub hzs
 clear hzs
 unfold reckonerlaw13_EvalNames at hS
 refine rg fun K k => z_box h H rfl [xv1] (by rw [rp1.cells]) rfl fun a p1 w X H h => ?_
 have H : HZ w0 _ _ [_] _ := H
 refine cps 1 h rfl fun a h => cz k <| sq <| rg fun K k => sC h H hS rfl (fun y3 f3 => dC call22 (reckonerlaw13_fit_ok f3 (hG.ext H.out) :)) fun y3 hS w X H a h => ?_
 refine sB h hS rfl (v_not rfl) fun z4 e4 hS a h => ?_
 refine cz k <| cI h hS rfl (fun ec5 hS => ?_) fun ec5 hS => ?_
 refine rg fun K k => cps 1 h rfl fun a h => cN k h [4] [_] fun h => ?_
 cases hS
 refine r1 hr h rfl rfl ⟨rfl, H.out⟩
 refine c_skip <| cO h [0, 3] [_, _] fun h => ?_
 refine sq <| rg fun K k => s1 h rfl (l1 H 0 isAgg23) fun a h => ?_
 refine s1 h rfl (v_len underlying23 rfl (rp1.at H.zin)) fun a h => ?_
 refine sB h hS rfl (v_gt rfl rfl) fun z7 e7 hS a h => ?_
 refine cps 1 h rfl fun a h => st_g h rfl rfl (gF rfl) rfl rfl (fun e0 => v_move rfl) fun a h => ?_
 refine st_g h rfl rfl (gF rfl) rfl rfl (fun e0 => v_len underlying63 (eg e0 rfl) (rp0.at H.zin)) fun a h => ?_
 obtain ⟨z8, e8, hS⟩ := bv hS
 refine st_g h rfl rfl (gF rfl) rfl rfl (fun e0 => vB e8 (v_gt (eg e0 rfl) rfl)) fun a h => ?_
 refine sB h hS rfl (v_or rfl rfl) fun z9 e9 hS a h => ?_
 refine cN k h [0, 3, 23] [_, _, _] fun h => ?_
 refine cI h hS rfl (fun ec10 hS => ?_) fun ec10 hS => ?_
 refine rg fun K k => cps 1 h rfl fun a h => cz k ?_
 cases hS
 refine r1 hr h rfl rfl ⟨rfl, H.out⟩
 refine c_skip <| rg fun K k => cps 1 h rfl fun a h => ?_
 obtain ⟨y11, f11, hS⟩ := bo hS
 refine st2 h rfl rfl rfl (dC call23 (reckonerlaw13_Place_ok f11 H.zin rp0)) ?_
 rintro v_ w ⟨p12, rfl, ⟨lo_1, hb_1, lp1⟩, X⟩ a h
 have H := H.pushF X hb_1 lo_1
 have H : HZ w0 _ _ [_, _] _ := H
 refine zA h H zeroValue35 [_] (fun x => [_, _, x]) fun a p13 w X H h => ?_
 refine zS h H 2 sizeOf35 [_] [_] [_, _, _] fun w H => ?_
 refine cN k h [3, 5] [_, _] fun h => ?_
 refine rg fun K k => ?_
 obtain ⟨Z, hsub, H, hz1_14⟩ := H.freezeB 1 rfl rfl
 have rp0 := rp0.sub hsub
 have rp1 := rp1.sub hsub
 have H : HZ w0 _ _ [_, _, _] _ := H
 obtain ⟨Z, hsub, H, hz2_15⟩ := H.freezeB 2 rfl rfl
 have rp0 := rp0.sub hsub
 have rp1 := rp1.sub hsub
 have hz1_14 := hsub _ _ hz1_14
 have H : HZ w0 _ _ [_, _, _] _ := H
 refine s1 h rfl (v_makeFunc [_] rfl) fun a h => ?_
 refine cps 1 h rfl fun a h => cz k <| rg fun K k => s1 h rfl (v_build bld30 [] [_, _, _, _, _] rfl rfl) fun a h => ?_
 refine zA h H zeroValue30 [_, _, _, _, _] (fun x => [_, _, _, x]) fun a p16 w X H h => ?_
 refine zS h H 3 sizeOf30 [_, _, _, _, _] [_, _, _, _, _] [_, _, _, _] fun w H => ?_
 refine cz k <| rg fun K k => s1 h rfl (v_fieldAddr rfl underlying30 rfl sizeOf28 rfl rfl) fun a h => ?_
 refine s1 h rfl (v_fieldAddr rfl underlying28 rfl sizeOf3 rfl rfl) fun a h => ?_
 refine zS h H 3 sizeOf3 [_] [_, _, _, _, _] [_, _, _, _] fun w H => ?_
 refine s1 h rfl (v_fieldAddr rfl underlying30 rfl sizeOf28 rfl rfl) fun a h => ?_
 refine s1 h rfl (v_fieldAddr rfl underlying28 rfl sizeOf3 rfl rfl) fun a h => ?_
 refine zS h H 3 sizeOf3 [_] [_, _, _, _, _] [_, _, _, _] fun w H => ?_
 refine cN k h [3, 6, 7] [_, _, _] fun h => ?_
 refine rg fun K k => sC h H hS rfl (fun y17 f17 => dC call34 (tree_Number_ok f17 (hG.ext H.out) :)) fun y17 hS w X H a h => ?_
 refine cps 1 h rfl fun a h => cz k <| flT 16 h fun K k => ?_
 refine fcps 2 rfl ?_
 refine F1 rfl (fun w X => v_build bld33 [_, _] [_, _, _, _, _, _, _, _, _, _, _, _, _, _, _, _, _] rfl rfl) ?_
 refine f_op [35] rfl rfl rfl rfl false (.rel (fun w' v' => RdN (ZB Z w.heap.size w') v' nodeEnc (([(⟨4, 0, (⟨0, 0, []⟩ : V), (⟨(⟨0, 0, 0⟩ : C), false, false⟩ : Rf), (⟨(⟨0, 0, 0⟩ : C), false, false⟩ : Rf), ([76, 73, 83, 84] : List UInt8), []⟩ : Nd)] : List (Nd))))) rn_stab (fun w X => ?_) ?_
 skip
 exact d_sliceRN (E := nodeEnc) (data := [(⟨4, 0, (⟨0, 0, []⟩ : V), (⟨(⟨0, 0, 0⟩ : C), false, false⟩ : Rf), (⟨(⟨0, 0, 0⟩ : C), false, false⟩ : Rf), ([76, 73, 83, 84] : List UInt8), []⟩ : Nd)]) ([⟨[.int .i64 4, .int .i64 0, .int .i64 0, .int .i64 0, S [], .int .i64 0, .int .i64 0, .int .i64 0, .bool false, .bool false, .int .i64 0, .int .i64 0, .int .i64 0, .bool false, .bool false, S ([76, 73, 83, 84] : List UInt8), .slice none 0 0], rfl⟩] : List (Cl 17)) H.zin X underlying31 sizeOf33 zeroValue33 rfl (zl := [.int .i64 0, .int .i64 0, .int .i64 0, .int .i64 0, S [], .int .i64 0, .int .i64 0, .int .i64 0, .bool false, .bool false, .int .i64 0, .int .i64 0, .int .i64 0, .bool false, .bool false, S [], .slice none 0 0]) (by kernel_rfl) (plA_get 1 17) [_] [_, _, _, _, _, _, _, _, _, _, _, _, _, _, _, _, _] rfl rfl rfl rfl ⟨node_mk ⟨_, rfl, RdN.nil⟩, trivial⟩
 obtain ⟨y18, f18, hS⟩ := bo hS
 refine f_op [34, 36] rfl rfl rfl rfl false (.rel (fun w' v' => ∃ v37_19_1, v' = .agg #[.int .i64 y18.k, .int .i64 y18.op, .int .i64 y18.v.k, .int .i64 y18.v.n, S y18.v.s, .int .i64 y18.a.c.s, .int .i64 y18.a.c.c, .int .i64 y18.a.c.r, .bool y18.a.ac, .bool y18.a.ar, .int .i64 y18.b.c.s, .int .i64 y18.b.c.c, .int .i64 y18.b.c.r, .bool y18.b.ac, .bool y18.b.ar, S y18.nm, v37_19_1] ∧ RdN (ZB Z w.heap.size w') v37_19_1 nodeEnc y18.l)) (fun w w' v X h => by obtain ⟨v37_19_1, hv, hr0⟩ := h; exact ⟨_, hv, hr0.sub (ZB.grow X)⟩) (fun w X => ?_) ?_
 intro v36 h36
 exact have Hs := ZB.of H.zin X; have H := H.ext X; Does.doesR (dC call26 (tree_Apply_ok (x0 := y17) (x1 := ([(⟨4, 0, (⟨0, 0, []⟩ : V), (⟨(⟨0, 0, 0⟩ : C), false, false⟩ : Rf), (⟨(⟨0, 0, 0⟩ : C), false, false⟩ : Rf), ([76, 73, 83, 84] : List UInt8), []⟩ : Nd)])) f18 (ZB.inn H.zin) h36)) (fun v w' hr => by obtain ⟨v37_19_1, hv, hr0, X'⟩ := hr; exact ⟨⟨_, hv, hr0.sub (ZB.back2 X X')⟩, X'⟩)
 obtain ⟨y20, f20, hS⟩ := bo hS
 refine f_op [33, 37] rfl rfl rfl rfl false (.ivl (fun lo hi w' v' => ∃ v38_21_1, v' = .agg #[.int .i64 y20.v.k, .int .i64 y20.v.n, S y20.v.s, .int .i64 y20.c.s, .int .i64 y20.c.c, .int .i64 y20.c.r, v38_21_1] ∧ RdZ (ZBt Z0 lo hi w') v38_21_1 3 cL y20.l)) (fun lo hi w w' v X h => by obtain ⟨v38_21_1, hv, hr0⟩ := h; exact ⟨_, hv, hr0.sub (ZBt.grow X)⟩) (fun w X => ?_) ?_
 intro v37 h37
 obtain ⟨v37_19_1, rfl, r37_19_1⟩ := h37
 exact have Hs := ZB.of H.zin X; have H := H.ext X; Does.doesI (d_callV [_] rfl rfl call33 [_, _] rfl (reckonerlaw13_EvalNames_1_ok f20 (ZB.inn H.zin) r37_19_1 (Hs _ _ hz2_15) (Hs _ _ hz1_14) lp1 (hG.ext H.out))) (fun v w' hr => by obtain ⟨v38_21_1, hv, hr0, X'⟩ := hr; exact ⟨⟨_, hv, hr0.sub ZBt.of⟩, X'⟩)
 refine fcps 2 rfl ?_
 refine F1 rfl (fun w X => v_build bld30 [] [_, _, _, _, _] rfl rfl) ?_
 refine F1 rfl (fun w X => have H := H.ext X; lA H 3 isAgg30 sizeOf30 [_, _, _, _, _]) ?_
 obtain ⟨y22, f22, hS⟩ := bo hS
 refine f_op [41, 42] rfl rfl rfl rfl false (.rel (fun w' v' => ∃ v43_23_1, v' = .agg #[.int .i64 y22.k, .int .i64 y22.op, .int .i64 y22.v.k, .int .i64 y22.v.n, S y22.v.s, .int .i64 y22.a.c.s, .int .i64 y22.a.c.c, .int .i64 y22.a.c.r, .bool y22.a.ac, .bool y22.a.ar, .int .i64 y22.b.c.s, .int .i64 y22.b.c.c, .int .i64 y22.b.c.r, .bool y22.b.ac, .bool y22.b.ar, S y22.nm, v43_23_1] ∧ RdN (ZB Z w.heap.size w') v43_23_1 nodeEnc y22.l)) (fun w w' v X h => by obtain ⟨v43_23_1, hv, hr0⟩ := h; exact ⟨_, hv, hr0.sub (ZB.grow X)⟩) (fun w X => ?_) ?_
 skip
 exact have Hs := ZB.of H.zin X; have H := H.ext X; Does.doesR (dC call35 (tree_Span_ok (x0 := (⟨(⟨0, 0, 0⟩ : C), false, false⟩ : Rf)) (x1 := (⟨(⟨0, 1, 1⟩ : C), false, false⟩ : Rf)) f22)) (fun v w' hr => by obtain ⟨v43_23_1, hv, hr0, X'⟩ := hr; exact ⟨⟨_, hv, hr0.sub (ZB.back X X')⟩, X'⟩)
 refine f_op [43] rfl rfl rfl rfl false (.rel (fun w' v' => RdN (ZB Z w.heap.size w') v' nodeEnc ([y22] : List (Nd)))) rn_stab (fun w X => ?_) ?_
 intro v43 h43
 obtain ⟨v43_23_1, rfl, r43_23_1⟩ := h43
 exact d_sliceRN (E := nodeEnc) (data := [y22]) ([⟨[.int .i64 y22.k, .int .i64 y22.op, .int .i64 y22.v.k, .int .i64 y22.v.n, S y22.v.s, .int .i64 y22.a.c.s, .int .i64 y22.a.c.c, .int .i64 y22.a.c.r, .bool y22.a.ac, .bool y22.a.ar, .int .i64 y22.b.c.s, .int .i64 y22.b.c.c, .int .i64 y22.b.c.r, .bool y22.b.ac, .bool y22.b.ar, S y22.nm, v43_23_1], rfl⟩] : List (Cl 17)) H.zin X underlying31 sizeOf33 zeroValue33 rfl (zl := [.int .i64 0, .int .i64 0, .int .i64 0, .int .i64 0, S [], .int .i64 0, .int .i64 0, .int .i64 0, .bool false, .bool false, .int .i64 0, .int .i64 0, .int .i64 0, .bool false, .bool false, S [], .slice none 0 0]) (by kernel_rfl) (plA_get 1 17) [_] [_, _, _, _, _, _, _, _, _, _, _, _, _, _, _, _, _] rfl rfl rfl rfl ⟨node_mk ⟨_, rfl, r43_23_1⟩, trivial⟩
 obtain ⟨y24, f24, hS⟩ := bo hS
 refine f_op [40, 44] rfl rfl rfl rfl false (.rel (fun w' v' => ∃ v45_25_1, v' = .agg #[.int .i64 y24.k, .int .i64 y24.op, .int .i64 y24.v.k, .int .i64 y24.v.n, S y24.v.s, .int .i64 y24.a.c.s, .int .i64 y24.a.c.c, .int .i64 y24.a.c.r, .bool y24.a.ac, .bool y24.a.ar, .int .i64 y24.b.c.s, .int .i64 y24.b.c.c, .int .i64 y24.b.c.r, .bool y24.b.ac, .bool y24.b.ar, S y24.nm, v45_25_1] ∧ RdN (ZB Z w.heap.size w') v45_25_1 nodeEnc y24.l)) (fun w w' v X h => by obtain ⟨v45_25_1, hv, hr0⟩ := h; exact ⟨_, hv, hr0.sub (ZB.grow X)⟩) (fun w X => ?_) ?_
 intro v44 h44
 exact have Hs := ZB.of H.zin X; have H := H.ext X; Does.doesR (dC call26 (tree_Apply_ok (x0 := y17) (x1 := [y22]) f24 (ZB.inn H.zin) h44)) (fun v w' hr => by obtain ⟨v45_25_1, hv, hr0, X'⟩ := hr; exact ⟨⟨_, hv, hr0.sub (ZB.back2 X X')⟩, X'⟩)
 obtain ⟨y26, f26, hS⟩ := bo hS
 refine f_op [39, 45] rfl rfl rfl rfl false (.ivl (fun lo hi w' v' => ∃ v46_27_1, v' = .agg #[.int .i64 y26.v.k, .int .i64 y26.v.n, S y26.v.s, .int .i64 y26.c.s, .int .i64 y26.c.c, .int .i64 y26.c.r, v46_27_1] ∧ RdZ (ZBt Z0 lo hi w') v46_27_1 3 cL y26.l)) (fun lo hi w w' v X h => by obtain ⟨v46_27_1, hv, hr0⟩ := h; exact ⟨_, hv, hr0.sub (ZBt.grow X)⟩) (fun w X => ?_) ?_
 intro v45 h45
 obtain ⟨v45_25_1, rfl, r45_25_1⟩ := h45
 exact have Hs := ZB.of H.zin X; have H := H.ext X; Does.doesI (d_callV [_] rfl rfl call33 [_, _] rfl (reckonerlaw13_EvalNames_1_ok f26 (ZB.inn H.zin) r45_25_1 (Hs _ _ hz2_15) (Hs _ _ hz1_14) lp1 (hG.ext H.out))) (fun v w' hr => by obtain ⟨v46_27_1, hv, hr0, X'⟩ := hr; exact ⟨⟨_, hv, hr0.sub ZBt.of⟩, X'⟩)
 refine f_alloc zeroValue51 [_, _, _, _, _, _, _] rfl rfl ?_
 refine f_alloc zeroValue51 [_, _, _, _, _, _, _] rfl rfl ?_
 refine fn_ ?_
 intro a w X hR hA
 obtain ⟨_, ⟨p28, rfl, hb9⟩, _, ⟨p29, rfl, hb10⟩, vi38, _, vi46, _, h⟩ := hR.out [3, 6, 9, 10, 38, 46]
 have h : Fr 113 [(46, _), (38, _), (10, _), (9, _), (6, _), (3, _)] a := h
 obtain ⟨lo0_, hi0_, hlo0_, ⟨v38_21_1, hv_, r38_21_1⟩, hav0_⟩ := hA.iv 38 _ rfl
 rw [h.has 38 _ rfl] at hv_
 subst hv_
 obtain ⟨lo1_, hi1_, hlo1_, ⟨v46_27_1, hv_, r46_27_1⟩, hav1_⟩ := hA.iv 46 _ rfl
 rw [h.has 46 _ rfl] at hv_
 subst hv_
 have hav0_9 := hav0_ 9 (by simp) (by decide) p28 (by rw [h.has 9 _ rfl]; rfl)
 have hav1_9 := hav1_ 9 (by simp) (by decide) p28 (by rw [h.has 9 _ rfl]; rfl)
 have lo9 := hA.lo' h (s := 9) rfl rfl
 have hav0_10 := hav0_ 10 (by simp) (by decide) p29 (by rw [h.has 10 _ rfl]; rfl)
 have hav1_10 := hav1_ 10 (by simp) (by decide) p29 (by rw [h.has 10 _ rfl]; rfl)
 have lo10 := hA.lo' h (s := 10) rfl rfl
 have ne_ := hA.ne' h (s := 9) (t := 10) rfl rfl rfl rfl rfl
 obtain ⟨Z, hsub, hadd0, hadd1, H⟩ := H.pushI2 X hb9 lo9 hb10 lo10 ne_ hlo0_ hlo1_ hav0_9 hav1_9 hav0_10 hav1_10
 have rp0 := rp0.sub hsub
 have rp1 := rp1.sub hsub
 have hz1_14 := hsub _ _ hz1_14
 have hz2_15 := hsub _ _ hz2_15
 have r38_21_1 := r38_21_1.sub hadd0
 have r46_27_1 := r46_27_1.sub hadd1
 have H : HZ w0 _ _ [_, _, _, _, _, _] _ := H
 refine z_store h H 4 rfl rfl rfl sizeOf51 [_, _, _, _, _, _, _] rfl rfl (by obtain ⟨_, _, _, e_⟩ := (r38_21_1).form; subst e_; rfl) (by simp) [_, _, _, _, _, _, _] rfl (hl' := [_, _, _, _, _, _]) rfl fun w H => ?_
 refine z_store h H 5 rfl rfl rfl sizeOf51 [_, _, _, _, _, _, _] rfl rfl (by obtain ⟨_, _, _, e_⟩ := (r46_27_1).form; subst e_; rfl) (by simp) [_, _, _, _, _, _, _] rfl (hl' := [_, _, _, _, _, _]) rfl fun w H => ?_
 refine cz k <| sq <| rg fun K k => s1 h rfl (v_fieldAddr rfl underlying51 rfl sizeOf26 rfl rfl) fun a h => ?_
 refine s1 h rfl (lA H 4 isAgg26 sizeOf26 [_, _, _]) fun a h => ?_
 refine s1 h rfl (v_fieldAddr rfl underlying51 rfl sizeOf26 rfl rfl) fun a h => ?_
 refine s1 h rfl (lA H 5 isAgg26 sizeOf26 [_, _, _]) fun a h => ?_
 refine sB h hS rfl (v_aggne rfl rfl age26 (agq26 _ _ _ _ _ _)) fun z31 e31 hS a h => ?_
 refine cps 1 h rfl fun a h => st_g h rfl rfl (gF rfl) rfl rfl (fun e0 => v_fieldAddr rfl underlying51 rfl sizeOf49 rfl rfl) fun a h => ?_
 refine st_g h rfl rfl (gF rfl) rfl rfl (fun e0 => v_load1 (eg e0 rfl) isAgg49 (H.hp.get 4 rfl) rfl) fun a h => ?_
 refine st_g h rfl rfl (gF rfl) rfl rfl (fun e0 => v_len underlying49 (eg e0 rfl) (r38_21_1.at H.zin)) fun a h => ?_
 obtain ⟨z32, e32, hS⟩ := bv hS
 refine st_g h rfl rfl (gF rfl) rfl rfl (fun e0 => vB e32 (v_ne (eg e0 rfl) rfl)) fun a h => ?_
 refine st_g h rfl rfl (gF rfl) rfl rfl (fun e0 => v_move (eg e0 rfl)) fun a h => ?_
 refine st_g h rfl rfl (ggT rfl) rfl rfl (fun e0 => v_fieldAddr rfl underlying51 rfl sizeOf26 rfl rfl) fun a h => ?_
 refine st_g h rfl rfl (ggT rfl) rfl rfl (fun e0 => v_fieldAddr (eg e0 rfl) underlying26 rfl sizeOf3 rfl rfl) fun a h => ?_
 refine st_g h rfl rfl (ggT rfl) rfl rfl (fun e0 => v_load1 (eg e0 rfl) isAgg3 (H.hp.get 4 rfl) rfl) fun a h => ?_
 obtain ⟨z33, e33, hS⟩ := bv hS
 refine st_g h rfl rfl (ggT rfl) rfl rfl (fun e0 => vB e33 (v_ne (eg e0 rfl) rfl)) fun a h => ?_
 obtain ⟨z34, e34, hS⟩ := bv hS
 refine st_g h rfl rfl (gF rfl) rfl rfl (fun e0 => vB e34 (v_and (eg e0 rfl) (egn e0 rfl))) fun a h => ?_
 refine sB h hS rfl (v_or rfl rfl) fun z35 e35 hS a h => ?_
 refine cps 1 h rfl fun a h => st_g h rfl rfl (gF rfl) rfl rfl (fun e0 => v_fieldAddr rfl underlying51 rfl sizeOf49 rfl rfl) fun a h => ?_
 refine st_g h rfl rfl (gF rfl) rfl rfl (fun e0 => v_load1 (eg e0 rfl) isAgg49 (H.hp.get 4 rfl) rfl) fun a h => ?_
 refine st_g h rfl rfl (gF rfl) rfl rfl (fun e0 => v_len underlying49 (eg e0 rfl) (r38_21_1.at H.zin)) fun a h => ?_
 refine st_g h rfl rfl (gF rfl) rfl rfl (fun e0 => v_fieldAddr rfl underlying51 rfl sizeOf49 rfl rfl) fun a h => ?_
 refine st_g h rfl rfl (gF rfl) rfl rfl (fun e0 => v_load1 (eg e0 rfl) isAgg49 (H.hp.get 5 rfl) rfl) fun a h => ?_
 refine st_g h rfl rfl (gF rfl) rfl rfl (fun e0 => v_len underlying49 (eg e0 rfl) (r46_27_1.at H.zin)) fun a h => ?_
 obtain ⟨z36, e36, hS⟩ := bv hS
 refine st_g h rfl rfl (gF rfl) rfl rfl (fun e0 => vB e36 (v_ne (eg e0 rfl) (eg e0 rfl))) fun a h => ?_
 refine sB h hS rfl (v_or rfl rfl) fun z37 e37 hS a h => ?_
 refine cN k h [3, 6, 72] [_, _, _] fun h => ?_
 refine cI h hS rfl (fun ec38 hS => ?_) fun ec38 hS => ?_
 refine rg fun K k => cps 1 h rfl fun a h => cz k ?_
 cases hS
 refine r1 hr h rfl rfl ⟨rfl, H.out⟩
 refine c_skip <| rg fun K k => ?_
 obtain ⟨y39, f39, hS⟩ := bo hS
 refine st2 h rfl rfl rfl (dC call13 (reckonerlaw05_Seed_Formula_ok KK f39 H.zin rp1 (H.hp.get 0 rfl) (H.offI 0 rfl _ rfl) rfl rfl (hG.ext H.out))) ?_
 rintro v_ w ⟨v73_40_1, rfl, r73_40_1, ⟨sv_40, hm_40, rs_40⟩, X⟩ a h
 obtain ⟨Z, hsub, hadd, H⟩ := H.lentB 0 rfl hm_40 X (hl' := [_, _, _, _, _, _]) rfl
 have r38_21_1 := r38_21_1.sub hsub
 have r46_27_1 := r46_27_1.sub hsub
 have rp0 := rp0.sub hsub
 have hz1_14 := hsub _ _ hz1_14
 have hz2_15 := hsub _ _ hz2_15
 have r73_40_1 := r73_40_1.sub hadd
 have rs_40 := rs_40.sub hadd
 have H : HZ w0 _ _ [_, _, _, _, _, _] _ := H
 refine zA h H zeroValue33 [_, _, _, _, _, _, _, _, _, _, _, _, _, _, _, _, _] (fun x => [_, _, _, _, _, _, x]) fun a p41 w X H h => ?_
 refine z_store h H 6 rfl rfl rfl sizeOf33 [_, _, _, _, _, _, _, _, _, _, _, _, _, _, _, _, _] rfl rfl (by obtain ⟨_, _, _, e_⟩ := (r73_40_1).form; subst e_; rfl) (by simp) [_, _, _, _, _, _, _, _, _, _, _, _, _, _, _, _, _] rfl (hl' := [_, _, _, _, _, _, _]) rfl fun w H => ?_
 refine cz k <| flT 13 h fun K k => ?_
 refine fcps 1 rfl ?_
 refine F1 rfl (fun w X => have H := H.ext X; lA H 6 isAgg33 sizeOf33 [_, _, _, _, _, _, _, _, _, _, _, _, _, _, _, _, _]) ?_
 refine F1 rfl (fun w X => v_build bld33 [_, _] [_, _, _, _, _, _, _, _, _, _, _, _, _, _, _, _, _] rfl rfl) ?_
 obtain ⟨y42, f42, hS⟩ := bo hS
 refine f_op [75, 76] rfl rfl rfl rfl false (.rel (fun w' v' => ∃ v77_43_1, v' = .agg #[.int .i64 y42.k, .int .i64 y42.op, .int .i64 y42.v.k, .int .i64 y42.v.n, S y42.v.s, .int .i64 y42.a.c.s, .int .i64 y42.a.c.c, .int .i64 y42.a.c.r, .bool y42.a.ac, .bool y42.a.ar, .int .i64 y42.b.c.s, .int .i64 y42.b.c.c, .int .i64 y42.b.c.r, .bool y42.b.ac, .bool y42.b.ar, S y42.nm, v77_43_1] ∧ RdN (ZB Z w.heap.size w') v77_43_1 nodeEnc y42.l)) (fun w w' v X h => by obtain ⟨v77_43_1, hv, hr0⟩ := h; exact ⟨_, hv, hr0.sub (ZB.grow X)⟩) (fun w X => ?_) ?_
 skip
 exact have Hs := ZB.of H.zin X; have H := H.ext X; Does.doesR (dC call36 (tree_Binary_ok (x0 := (1 : Int)) (x1 := y39.1) (x2 := (⟨4, 0, (⟨0, 0, []⟩ : V), (⟨(⟨0, 0, 0⟩ : C), false, false⟩ : Rf), (⟨(⟨0, 0, 0⟩ : C), false, false⟩ : Rf), ([82, 65, 84, 69] : List UInt8), []⟩ : Nd)) f42 (ZB.inn H.zin) (r73_40_1.sub Hs) RdN.nil)) (fun v w' hr => by obtain ⟨v77_43_1, hv, hr0, X'⟩ := hr; exact ⟨⟨_, hv, hr0.sub (ZB.back2 X X')⟩, X'⟩)
 obtain ⟨y44, f44, hS⟩ := bo hS
 refine f_op [74, 77] rfl rfl rfl rfl false (.ivl (fun lo hi w' v' => ∃ v78_45_1, v' = .agg #[.int .i64 y44.v.k, .int .i64 y44.v.n, S y44.v.s, .int .i64 y44.c.s, .int .i64 y44.c.c, .int .i64 y44.c.r, v78_45_1] ∧ RdZ (ZBt Z0 lo hi w') v78_45_1 3 cL y44.l)) (fun lo hi w w' v X h => by obtain ⟨v78_45_1, hv, hr0⟩ := h; exact ⟨_, hv, hr0.sub (ZBt.grow X)⟩) (fun w X => ?_) ?_
 intro v77 h77
 obtain ⟨v77_43_1, rfl, r77_43_1⟩ := h77
 exact have Hs := ZB.of H.zin X; have H := H.ext X; Does.doesI (d_callV [_] rfl rfl call33 [_, _] rfl (reckonerlaw13_EvalNames_1_ok f44 (ZB.inn H.zin) r77_43_1 (Hs _ _ hz2_15) (Hs _ _ hz1_14) lp1 (hG.ext H.out))) (fun v w' hr => by obtain ⟨v78_45_1, hv, hr0, X'⟩ := hr; exact ⟨⟨_, hv, hr0.sub ZBt.of⟩, X'⟩)
 refine fcps 1 rfl ?_
 refine F1 rfl (fun w X => have H := H.ext X; lA H 6 isAgg33 sizeOf33 [_, _, _, _, _, _, _, _, _, _, _, _, _, _, _, _, _]) ?_
 refine F1 rfl (fun w X => v_build bld30 [] [_, _, _, _, _] rfl rfl) ?_
 obtain ⟨y46, f46, hS⟩ := bo hS
 refine f_op [81] rfl rfl rfl rfl false (.rel (fun w' v' => ∃ v82_47_1, v' = .agg #[.int .i64 y46.k, .int .i64 y46.op, .int .i64 y46.v.k, .int .i64 y46.v.n, S y46.v.s, .int .i64 y46.a.c.s, .int .i64 y46.a.c.c, .int .i64 y46.a.c.r, .bool y46.a.ac, .bool y46.a.ar, .int .i64 y46.b.c.s, .int .i64 y46.b.c.c, .int .i64 y46.b.c.r, .bool y46.b.ac, .bool y46.b.ar, S y46.nm, v82_47_1] ∧ RdN (ZB Z w.heap.size w') v82_47_1 nodeEnc y46.l)) (fun w w' v X h => by obtain ⟨v82_47_1, hv, hr0⟩ := h; exact ⟨_, hv, hr0.sub (ZB.grow X)⟩) (fun w X => ?_) ?_
 skip
 exact have Hs := ZB.of H.zin X; have H := H.ext X; Does.doesR (dC call25 (tree_Cell_ok (x0 := (⟨(⟨0, 0, 0⟩ : C), false, false⟩ : Rf)) f46)) (fun v w' hr => by obtain ⟨v82_47_1, hv, hr0, X'⟩ := hr; exact ⟨⟨_, hv, hr0.sub (ZB.back X X')⟩, X'⟩)
 obtain ⟨y48, f48, hS⟩ := bo hS
 refine f_op [80, 82] rfl rfl rfl rfl false (.rel (fun w' v' => ∃ v83_49_1, v' = .agg #[.int .i64 y48.k, .int .i64 y48.op, .int .i64 y48.v.k, .int .i64 y48.v.n, S y48.v.s, .int .i64 y48.a.c.s, .int .i64 y48.a.c.c, .int .i64 y48.a.c.r, .bool y48.a.ac, .bool y48.a.ar, .int .i64 y48.b.c.s, .int .i64 y48.b.c.c, .int .i64 y48.b.c.r, .bool y48.b.ac, .bool y48.b.ar, S y48.nm, v83_49_1] ∧ RdN (ZB Z w.heap.size w') v83_49_1 nodeEnc y48.l)) (fun w w' v X h => by obtain ⟨v83_49_1, hv, hr0⟩ := h; exact ⟨_, hv, hr0.sub (ZB.grow X)⟩) (fun w X => ?_) ?_
 intro v82 h82
 obtain ⟨v82_47_1, rfl, r82_47_1⟩ := h82
 exact have Hs := ZB.of H.zin X; have H := H.ext X; Does.doesR (dC call36 (tree_Binary_ok (x0 := (1 : Int)) (x1 := y39.1) (x2 := y46) f48 (ZB.inn H.zin) (r73_40_1.sub Hs) r82_47_1)) (fun v w' hr => by obtain ⟨v83_49_1, hv, hr0, X'⟩ := hr; exact ⟨⟨_, hv, hr0.sub (ZB.back2 X X')⟩, X'⟩)
 obtain ⟨y50, f50, hS⟩ := bo hS
 refine f_op [79, 83] rfl rfl rfl rfl false (.ivl (fun lo hi w' v' => ∃ v84_51_1, v' = .agg #[.int .i64 y50.v.k, .int .i64 y50.v.n, S y50.v.s, .int .i64 y50.c.s, .int .i64 y50.c.c, .int .i64 y50.c.r, v84_51_1] ∧ RdZ (ZBt Z0 lo hi w') v84_51_1 3 cL y50.l)) (fun lo hi w w' v X h => by obtain ⟨v84_51_1, hv, hr0⟩ := h; exact ⟨_, hv, hr0.sub (ZBt.grow X)⟩) (fun w X => ?_) ?_
 intro v83 h83
 obtain ⟨v83_49_1, rfl, r83_49_1⟩ := h83
 exact have Hs := ZB.of H.zin X; have H := H.ext X; Does.doesI (d_callV [_] rfl rfl call33 [_, _] rfl (reckonerlaw13_EvalNames_1_ok f50 (ZB.inn H.zin) r83_49_1 (Hs _ _ hz2_15) (Hs _ _ hz1_14) lp1 (hG.ext H.out))) (fun v w' hr => by obtain ⟨v84_51_1, hv, hr0, X'⟩ := hr; exact ⟨⟨_, hv, hr0.sub ZBt.of⟩, X'⟩)
 refine f_alloc zeroValue51 [_, _, _, _, _, _, _] rfl rfl ?_
 refine f_alloc zeroValue51 [_, _, _, _, _, _, _] rfl rfl ?_
 refine fn_ ?_
 intro a w X hR hA
 obtain ⟨_, ⟨p52, rfl, hb12⟩, _, ⟨p53, rfl, hb13⟩, vi78, _, vi84, _, h⟩ := hR.out [6, 12, 13, 78, 84]
 have h : Fr 113 [(84, _), (78, _), (13, _), (12, _), (6, _)] a := h
 obtain ⟨lo0_, hi0_, hlo0_, ⟨v78_45_1, hv_, r78_45_1⟩, hav0_⟩ := hA.iv 78 _ rfl
 rw [h.has 78 _ rfl] at hv_
 subst hv_
 obtain ⟨lo1_, hi1_, hlo1_, ⟨v84_51_1, hv_, r84_51_1⟩, hav1_⟩ := hA.iv 84 _ rfl
 rw [h.has 84 _ rfl] at hv_
 subst hv_
 have hav0_12 := hav0_ 12 (by simp) (by decide) p52 (by rw [h.has 12 _ rfl]; rfl)
 have hav1_12 := hav1_ 12 (by simp) (by decide) p52 (by rw [h.has 12 _ rfl]; rfl)
 have lo12 := hA.lo' h (s := 12) rfl rfl
 have hav0_13 := hav0_ 13 (by simp) (by decide) p53 (by rw [h.has 13 _ rfl]; rfl)
 have hav1_13 := hav1_ 13 (by simp) (by decide) p53 (by rw [h.has 13 _ rfl]; rfl)
 have lo13 := hA.lo' h (s := 13) rfl rfl
 have ne_ := hA.ne' h (s := 12) (t := 13) rfl rfl rfl rfl rfl
 obtain ⟨Z, hsub, hadd0, hadd1, H⟩ := H.pushI2 X hb12 lo12 hb13 lo13 ne_ hlo0_ hlo1_ hav0_12 hav1_12 hav0_13 hav1_13
 have r38_21_1 := r38_21_1.sub hsub
 have r46_27_1 := r46_27_1.sub hsub
 have r73_40_1 := r73_40_1.sub hsub
 have rp0 := rp0.sub hsub
 have rs_40 := rs_40.sub hsub
 have hz1_14 := hsub _ _ hz1_14
 have hz2_15 := hsub _ _ hz2_15
 have r78_45_1 := r78_45_1.sub hadd0
 have r84_51_1 := r84_51_1.sub hadd1
 have H : HZ w0 _ _ [_, _, _, _, _, _, _, _, _] _ := H
 refine z_store h H 7 rfl rfl rfl sizeOf51 [_, _, _, _, _, _, _] rfl rfl (by obtain ⟨_, _, _, e_⟩ := (r78_45_1).form; subst e_; rfl) (by simp) [_, _, _, _, _, _, _] rfl (hl' := [_, _, _, _, _, _, _, _, _]) rfl fun w H => ?_
 refine z_store h H 8 rfl rfl rfl sizeOf51 [_, _, _, _, _, _, _] rfl rfl (by obtain ⟨_, _, _, e_⟩ := (r84_51_1).form; subst e_; rfl) (by simp) [_, _, _, _, _, _, _] rfl (hl' := [_, _, _, _, _, _, _, _, _]) rfl fun w H => ?_
 refine cz k <| rg fun K k => s1 h rfl (v_fieldAddr rfl underlying51 rfl sizeOf26 rfl rfl) fun a h => ?_
 refine s1 h rfl (lA H 7 isAgg26 sizeOf26 [_, _, _]) fun a h => ?_
 refine s1 h rfl (v_fieldAddr rfl underlying51 rfl sizeOf26 rfl rfl) fun a h => ?_
 refine s1 h rfl (lA H 8 isAgg26 sizeOf26 [_, _, _]) fun a h => ?_
 refine sB h hS rfl (v_aggeq rfl rfl age26 (agq26 _ _ _ _ _ _)) fun z54 e54 hS a h => ?_
 refine cps 1 h rfl fun a h => st_g h rfl rfl (gT rfl) rfl rfl (fun e0 => v_fieldAddr rfl underlying51 rfl sizeOf28 rfl rfl) fun a h => ?_
 refine st_g h rfl rfl (gT rfl) rfl rfl (fun e0 => v_loadA [_, _, _] (eg e0 rfl) isAgg28 sizeOf28 (H.hp.get 7 rfl) rfl rfl) fun a h => ?_
 refine st_g h rfl rfl (gT rfl) rfl rfl (fun e0 => v_fieldAddr rfl underlying51 rfl sizeOf28 rfl rfl) fun a h => ?_
 refine st_g h rfl rfl (gT rfl) rfl rfl (fun e0 => v_loadA [_, _, _] (eg e0 rfl) isAgg28 sizeOf28 (H.hp.get 8 rfl) rfl rfl) fun a h => ?_
 obtain ⟨z55, e55, hS⟩ := bv hS
 refine st_g h rfl rfl (gT rfl) rfl rfl (fun e0 => vB e55 (v_aggeq (eg e0 rfl) (eg e0 rfl) age28 (agq28 _ _ _ _ _ _))) fun a h => ?_
 refine sB h hS rfl (v_and rfl rfl) fun z56 e56 hS a h => ?_
 refine cps 1 h rfl fun a h => st_g h rfl rfl (gT rfl) rfl rfl (fun e0 => v_move rfl) fun a h => ?_
 refine st_g h rfl rfl (gT rfl) rfl rfl (fun e0 => v_build bld33 [_, _] [_, _, _, _, _, _, _, _, _, _, _, _, _, _, _, _, _] (evs_c rfl (evs_c rfl evs_n)) rfl) fun a h => ?_
 obtain ⟨y57, f57, hS⟩ := bo hS
 refine st_gdE (V := fun v100_58_1 => .agg #[.int .i64 y57.v.k, .int .i64 y57.v.n, S y57.v.s, .int .i64 y57.c.s, .int .i64 y57.c.c, .int .i64 y57.c.r, v100_58_1]) h rfl rfl (gT rfl) rfl rfl (fun e0 => d_callV [_] (eg e0 rfl) (evs_c (eg e0 rfl) evs_n) call33 [_, _] rfl (reckonerlaw13_EvalNames_1_ok (ifT e0 f57) H.zin RdN.nil hz2_15 hz1_14 lp1 (hG.ext H.out))) (fun v w' hr => by obtain ⟨u, hv, _, X'⟩ := hr; exact ⟨u, hv, X'⟩) fun v100_58_1 w X a h => ?_
 have H := H.ext X
 refine st_g h rfl rfl (gT rfl) rfl rfl (fun e0 => v_fieldA [_, _, _] (eg e0 rfl) underlying51 rfl isAgg26 sizeOf26 rfl) fun a h => ?_
 obtain ⟨y59, f59, hS⟩ := bo hS
 refine st_gd (T := Ext) (V := .agg #[.int .i64 y59.k, .int .i64 y59.n, S y59.s]) h rfl rfl (gT rfl) rfl rfl (Ext.refl _) (fun e0 => dC call21 (value_Fail_ok (x0 := (4 : Int)) (ifT e0 f59))) fun w X a h => ?_
 have H := H.ext X
 obtain ⟨z60, e60, hS⟩ := bv hS
 refine st_g h rfl rfl (gT rfl) rfl rfl (fun e0 => vB e60 (v_aggeq (eg e0 rfl) (eg e0 rfl) age26 (agq26 _ _ _ _ _ _))) fun a h => ?_
 refine sB h hS rfl (v_and rfl rfl) fun z61 e61 hS a h => ?_
 refine cps 1 h rfl fun a h => st_g h rfl rfl (gT rfl) rfl rfl (fun e0 => v_move rfl) fun a h => ?_
 refine st_g h rfl rfl (gT rfl) rfl rfl (fun e0 => v_build bld33 [_, _] [_, _, _, _, _, _, _, _, _, _, _, _, _, _, _, _, _] (evs_c rfl (evs_c rfl evs_n)) rfl) fun a h => ?_
 obtain ⟨y62, f62, hS⟩ := bo hS
 refine st_gdE (V := fun v108_63_1 => .agg #[.int .i64 y62.v.k, .int .i64 y62.v.n, S y62.v.s, .int .i64 y62.c.s, .int .i64 y62.c.c, .int .i64 y62.c.r, v108_63_1]) h rfl rfl (gT rfl) rfl rfl (fun e0 => d_callV [_] (eg e0 rfl) (evs_c (eg e0 rfl) evs_n) call33 [_, _] rfl (reckonerlaw13_EvalNames_1_ok (ifT e0 f62) H.zin RdN.nil hz2_15 hz1_14 lp1 (hG.ext H.out))) (fun v w' hr => by obtain ⟨u, hv, _, X'⟩ := hr; exact ⟨u, hv, X'⟩) fun v108_63_1 w X a h => ?_
 have H := H.ext X
 refine st_g h rfl rfl (gT rfl) rfl rfl (fun e0 => v_fieldA [_, _, _] (eg e0 rfl) underlying51 rfl isAgg26 sizeOf26 rfl) fun a h => ?_
 obtain ⟨y64, f64, hS⟩ := bo hS
 refine st_gd (T := Ext) (V := .agg #[.int .i64 y64.k, .int .i64 y64.n, S y64.s]) h rfl rfl (gT rfl) rfl rfl (Ext.refl _) (fun e0 => dC call21 (value_Fail_ok (x0 := (2 : Int)) (ifT e0 f64))) fun w X a h => ?_
 have H := H.ext X
 obtain ⟨z65, e65, hS⟩ := bv hS
 refine st_g h rfl rfl (gT rfl) rfl rfl (fun e0 => vB e65 (v_aggeq (eg e0 rfl) (eg e0 rfl) age26 (agq26 _ _ _ _ _ _))) fun a h => ?_
 refine sB h hS rfl (v_and rfl rfl) fun z66 e66 hS a h => ?_
 refine cps 1 h rfl fun a h => cN k h [4] [_] fun h => ?_
 cases hS
 refine r1 hr h rfl rfl ⟨rfl, H.out⟩
end Go.Proofs.YtcecjdnkcbfhlaaGreatDoor
