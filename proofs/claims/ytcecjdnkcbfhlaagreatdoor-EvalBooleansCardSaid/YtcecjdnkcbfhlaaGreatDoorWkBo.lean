/- Walks: the code computes what the partial functions say. -/
import Derived.Test.YtcecjdnkcbfhlaaGreatDoorSpBo
import Derived.Test.YtcecjdnkcbfhlaaGreatDoorWkEv
set_option linter.unusedSimpArgs false
set_option linter.unusedVariables false
set_option linter.unusedSectionVars false
namespace Go.Proofs.YtcecjdnkcbfhlaaGreatDoor
open Go.Stp Go.RowKit Go.ValP Go.Sp _root_.Go.Proofs.Tryz
set_option maxRecDepth 100000
theorem reckonerlaw13_fit_ok  {res : Bool} {w0 : World} (hS : reckonerlaw13_fit  = some res) : Calls Tryz.prog 22 [].toArray w0 (Ret fun v w => v = .bool res ∧ Ext w0 w) := by
 refine en func22 [] [] fun Q a Zi Z hzs H h hr => ?_
 clear hzs
 unfold reckonerlaw13_fit at hS
 refine rg fun K k => ?_
 refine cps 1 h rfl fun a h => ?_
 refine cz k ?_
 refine rg fun K k => ?_
 refine s1 (V := .agg (zeroPl.flatMap vL).toArray) h rfl (v_buildZ bldZ) fun a h => ?_
 refine z_box h H rfl (zeroPl.flatMap vL) rfl rfl fun a p1 w X H h => ?_
 have H : HZ w0 _ _ [_] _ := H
 have lp0 := zeroPl_len
 refine cps 1 h rfl fun a h => ?_
 refine cz k ?_
 refine flT 6 h fun K k => ?_
 refine fcps 1 rfl ?_
 refine fC hS rfl (fun y2 f2 w X => dC call14 (value_Num_ok f2 :)) fun y2 hS => ?_
 refine F1 rfl (fun w X => v_nilCheck rfl) ?_
 refine F1 rfl (fun w X => v_fieldAddr rfl underlying39 rfl sizeOf37 rfl rfl) ?_
 refine F1 rfl (fun w X => v_idxArrG underlying37 sizeOf36 rfl rfl (by decide)) ?_
 refine F1 rfl (fun w X => v_idxArrG underlying36 sizeOf26 rfl rfl (by decide)) ?_
 refine fE [1, 7, 11] [_, _, _] H fun a w X H h => ?_
 obtain ⟨zp0_3, ezp0_3, hS⟩ := bv hS
 refine z_storeEl (enc := vL) (xs := zeroPl) (v := y2) (Int.toNat (64 * 0 + 0)) h H 0 rfl rfl rfl sizeOf26 (fun _ => rfl) rfl (by omega) (by dsimp only; omega) (hl' := [_]) rfl fun w H => ?_
 rw [← ezp0_3] at H
 have lp0 : zp0_3.length = 128 := by rw [ezp0_3, List.length_set]; exact lp0
 have H : HZ w0 _ _ [_] _ := H
 refine cz k ?_
 refine rg fun K k => ?_
 refine s1 h rfl (v_build bld30 [] [_, _, _, _, _] rfl rfl) fun a h => ?_
 refine zA h H zeroValue30 [_, _, _, _, _] (fun x => [_, x]) fun a p4 w X H h => ?_
 refine zS h H 1 sizeOf30 [_, _, _, _, _] [_, _, _, _, _] [_, _] fun w H => ?_
 refine cz k ?_
 refine rg fun K k => ?_
 refine s1 h rfl (v_fieldAddr rfl underlying30 rfl sizeOf28 rfl rfl) fun a h => ?_
 refine s1 h rfl (v_fieldAddr rfl underlying28 rfl sizeOf3 rfl rfl) fun a h => ?_
 refine zS h H 1 sizeOf3 [_] [_, _, _, _, _] [_, _] fun w H => ?_
 refine cN k h [1, 2] [_, _] fun h => ?_
 obtain ⟨Z, hsub, H, hz0_5⟩ := H.freezeB 0 rfl rfl
 have H : HZ w0 _ _ [_, _] _ := H
 refine flT 13 h fun K k => ?_
 refine fC hS rfl (fun y6 f6 w X => dC call24 (value_Bool_ok f6 :)) fun y6 hS => ?_
 obtain ⟨y7, f7, hS⟩ := bo hS
 refine f_op [15] rfl rfl rfl rfl false (.rel (fun w' v' => ∃ v16_8_1, v' = .agg #[.int .i64 y7.k, .int .i64 y7.op, .int .i64 y7.v.k, .int .i64 y7.v.n, S y7.v.s, .int .i64 y7.a.c.s, .int .i64 y7.a.c.c, .int .i64 y7.a.c.r, .bool y7.a.ac, .bool y7.a.ar, .int .i64 y7.b.c.s, .int .i64 y7.b.c.c, .int .i64 y7.b.c.r, .bool y7.b.ac, .bool y7.b.ar, S y7.nm, v16_8_1] ∧ RdN (ZB Z w.heap.size w') v16_8_1 nodeEnc y7.l)) (fun w w' v X h => by obtain ⟨v16_8_1, hv, hr0⟩ := h; exact ⟨_, hv, hr0.sub (ZB.grow X)⟩) (fun w X => ?_) ?_
 skip
 exact have Hs := ZB.of H.zin X; have H := H.ext X; Does.doesR (dC call32 (tree_Value_ok (x0 := y6) f7)) (fun v w' hr => by obtain ⟨v16_8_1, hv, hr0, X'⟩ := hr; exact ⟨⟨_, hv, hr0.sub (ZB.back X X')⟩, X'⟩)
 refine F1 rfl (fun w X => v_build bld30 [] [_, _, _, _, _] rfl rfl) ?_
 obtain ⟨y9, f9, hS⟩ := bo hS
 refine f_op [17] rfl rfl rfl rfl false (.rel (fun w' v' => ∃ v18_10_1, v' = .agg #[.int .i64 y9.k, .int .i64 y9.op, .int .i64 y9.v.k, .int .i64 y9.v.n, S y9.v.s, .int .i64 y9.a.c.s, .int .i64 y9.a.c.c, .int .i64 y9.a.c.r, .bool y9.a.ac, .bool y9.a.ar, .int .i64 y9.b.c.s, .int .i64 y9.b.c.c, .int .i64 y9.b.c.r, .bool y9.b.ac, .bool y9.b.ar, S y9.nm, v18_10_1] ∧ RdN (ZB Z w.heap.size w') v18_10_1 nodeEnc y9.l)) (fun w w' v X h => by obtain ⟨v18_10_1, hv, hr0⟩ := h; exact ⟨_, hv, hr0.sub (ZB.grow X)⟩) (fun w X => ?_) ?_
 skip
 exact have Hs := ZB.of H.zin X; have H := H.ext X; Does.doesR (dC call25 (tree_Cell_ok (x0 := (⟨(⟨0, 0, 0⟩ : C), false, false⟩ : Rf)) f9)) (fun v w' hr => by obtain ⟨v18_10_1, hv, hr0, X'⟩ := hr; exact ⟨⟨_, hv, hr0.sub (ZB.back X X')⟩, X'⟩)
 refine F1 rfl (fun w X => have H := H.ext X; lA H 1 isAgg30 sizeOf30 [_, _, _, _, _]) ?_
 obtain ⟨y11, f11, hS⟩ := bo hS
 refine f_op [19] rfl rfl rfl rfl false (.rel (fun w' v' => ∃ v20_12_1, v' = .agg #[.int .i64 y11.k, .int .i64 y11.op, .int .i64 y11.v.k, .int .i64 y11.v.n, S y11.v.s, .int .i64 y11.a.c.s, .int .i64 y11.a.c.c, .int .i64 y11.a.c.r, .bool y11.a.ac, .bool y11.a.ar, .int .i64 y11.b.c.s, .int .i64 y11.b.c.c, .int .i64 y11.b.c.r, .bool y11.b.ac, .bool y11.b.ar, S y11.nm, v20_12_1] ∧ RdN (ZB Z w.heap.size w') v20_12_1 nodeEnc y11.l)) (fun w w' v X h => by obtain ⟨v20_12_1, hv, hr0⟩ := h; exact ⟨_, hv, hr0.sub (ZB.grow X)⟩) (fun w X => ?_) ?_
 skip
 exact have Hs := ZB.of H.zin X; have H := H.ext X; Does.doesR (dC call25 (tree_Cell_ok (x0 := (⟨(⟨0, 1, 0⟩ : C), false, false⟩ : Rf)) f11)) (fun v w' hr => by obtain ⟨v20_12_1, hv, hr0, X'⟩ := hr; exact ⟨⟨_, hv, hr0.sub (ZB.back X X')⟩, X'⟩)
 refine f_op [16, 18, 20] rfl rfl rfl rfl false (.rel (fun w' v' => RdN (ZB Z w.heap.size w') v' nodeEnc ([y7, y9, y11] : List (Nd)))) rn_stab (fun w X => ?_) ?_
 intro v16 h16 v18 h18 v20 h20
 obtain ⟨v16_8_1, rfl, r16_8_1⟩ := h16
 obtain ⟨v18_10_1, rfl, r18_10_1⟩ := h18
 obtain ⟨v20_12_1, rfl, r20_12_1⟩ := h20
 exact d_sliceRN (E := nodeEnc) (data := [y7, y9, y11]) ([⟨[.int .i64 y7.k, .int .i64 y7.op, .int .i64 y7.v.k, .int .i64 y7.v.n, S y7.v.s, .int .i64 y7.a.c.s, .int .i64 y7.a.c.c, .int .i64 y7.a.c.r, .bool y7.a.ac, .bool y7.a.ar, .int .i64 y7.b.c.s, .int .i64 y7.b.c.c, .int .i64 y7.b.c.r, .bool y7.b.ac, .bool y7.b.ar, S y7.nm, v16_8_1], rfl⟩, ⟨[.int .i64 y9.k, .int .i64 y9.op, .int .i64 y9.v.k, .int .i64 y9.v.n, S y9.v.s, .int .i64 y9.a.c.s, .int .i64 y9.a.c.c, .int .i64 y9.a.c.r, .bool y9.a.ac, .bool y9.a.ar, .int .i64 y9.b.c.s, .int .i64 y9.b.c.c, .int .i64 y9.b.c.r, .bool y9.b.ac, .bool y9.b.ar, S y9.nm, v18_10_1], rfl⟩, ⟨[.int .i64 y11.k, .int .i64 y11.op, .int .i64 y11.v.k, .int .i64 y11.v.n, S y11.v.s, .int .i64 y11.a.c.s, .int .i64 y11.a.c.c, .int .i64 y11.a.c.r, .bool y11.a.ac, .bool y11.a.ar, .int .i64 y11.b.c.s, .int .i64 y11.b.c.c, .int .i64 y11.b.c.r, .bool y11.b.ac, .bool y11.b.ar, S y11.nm, v20_12_1], rfl⟩] : List (Cl 17)) H.zin X underlying31 sizeOf33 zeroValue33 rfl (zl := [.int .i64 0, .int .i64 0, .int .i64 0, .int .i64 0, S [], .int .i64 0, .int .i64 0, .int .i64 0, .bool false, .bool false, .int .i64 0, .int .i64 0, .int .i64 0, .bool false, .bool false, S [], .slice none 0 0, .int .i64 0, .int .i64 0, .int .i64 0, .int .i64 0, S [], .int .i64 0, .int .i64 0, .int .i64 0, .bool false, .bool false, .int .i64 0, .int .i64 0, .int .i64 0, .bool false, .bool false, S [], .slice none 0 0, .int .i64 0, .int .i64 0, .int .i64 0, .int .i64 0, S [], .int .i64 0, .int .i64 0, .int .i64 0, .bool false, .bool false, .int .i64 0, .int .i64 0, .int .i64 0, .bool false, .bool false, S [], .slice none 0 0]) (by kernel_rfl) (plA_get 3 17) [_, _, _] [_, _, _, _, _, _, _, _, _, _, _, _, _, _, _, _, _, _, _, _, _, _, _, _, _, _, _, _, _, _, _, _, _, _, _, _, _, _, _, _, _, _, _, _, _, _, _, _, _, _, _] rfl rfl rfl rfl ⟨node_mk ⟨_, rfl, r16_8_1⟩, node_mk ⟨_, rfl, r18_10_1⟩, node_mk ⟨_, rfl, r20_12_1⟩, trivial⟩
 obtain ⟨y13, f13, hS⟩ := bo hS
 refine f_op [21] rfl rfl rfl rfl false (.rel (fun w' v' => ∃ v22_14_1, v' = .agg #[.int .i64 y13.k, .int .i64 y13.op, .int .i64 y13.v.k, .int .i64 y13.v.n, S y13.v.s, .int .i64 y13.a.c.s, .int .i64 y13.a.c.c, .int .i64 y13.a.c.r, .bool y13.a.ac, .bool y13.a.ar, .int .i64 y13.b.c.s, .int .i64 y13.b.c.c, .int .i64 y13.b.c.r, .bool y13.b.ac, .bool y13.b.ar, S y13.nm, v22_14_1] ∧ RdN (ZB Z w.heap.size w') v22_14_1 nodeEnc y13.l)) (fun w w' v X h => by obtain ⟨v22_14_1, hv, hr0⟩ := h; exact ⟨_, hv, hr0.sub (ZB.grow X)⟩) (fun w X => ?_) ?_
 intro v21 h21
 exact have Hs := ZB.of H.zin X; have H := H.ext X; Does.doesR (dC call26 (tree_Apply_ok (x0 := (1 : Int)) (x1 := [y7, y9, y11]) f13 (ZB.inn H.zin) h21)) (fun v w' hr => by obtain ⟨v22_14_1, hv, hr0, X'⟩ := hr; exact ⟨⟨_, hv, hr0.sub (ZB.back2 X X')⟩, X'⟩)
 refine F1 rfl (fun w X => v_build bld28 [] [_, _, _] rfl rfl) ?_
 refine fcps 1 rfl ?_
 refine F1 rfl (fun w X => v_mkIface mkI rfl) ?_
 obtain ⟨y15, f15, hS⟩ := bo hS
 refine f_op [22, 23, 25] rfl rfl rfl rfl false (.ivl (fun lo hi w' v' => ∃ v26_16_1, v' = .agg #[.int .i64 y15.v.k, .int .i64 y15.v.n, S y15.v.s, .int .i64 y15.c.s, .int .i64 y15.c.c, .int .i64 y15.c.r, v26_16_1] ∧ RdZ (ZBt Z0 lo hi w') v26_16_1 3 cL y15.l)) (fun lo hi w w' v X h => by obtain ⟨v26_16_1, hv, hr0⟩ := h; exact ⟨_, hv, hr0.sub (ZBt.grow X)⟩) (fun w X => ?_) ?_
 intro v22 h22
 obtain ⟨v22_14_1, rfl, r22_14_1⟩ := h22
 exact have Hs := ZB.of H.zin X; have H := H.ext X; Does.doesI (dC call19 (eval_Eval_ok f15 (ZB.inn H.zin) r22_14_1 (Hs _ _ hz0_5) lp0)) (fun v w' hr => by obtain ⟨v26_16_1, hv, hr0, X'⟩ := hr; exact ⟨⟨_, hv, hr0.sub ZBt.of⟩, X'⟩)
 refine f_alloc zeroValue51 [_, _, _, _, _, _, _] rfl rfl ?_
 refine fn_ ?_
 intro a w X hR hA
 obtain ⟨_, ⟨p17, rfl, hb3⟩, vi26, _, h⟩ := hR.out [3, 26]
 have h : Fr 45 [(26, _), (3, _)] a := h
 obtain ⟨lo_, hi_, hlo_, ⟨v26_16_1, hv_, r26_16_1⟩, hav_⟩ := hA.iv 26 _ rfl
 rw [h.has 26 _ rfl] at hv_
 subst hv_
 have hav_ := hav_ 3 (by simp) (by decide) p17 (by rw [h.has 3 _ rfl]; rfl)
 have lo3 := hA.lo' h (s := 3) rfl rfl
 obtain ⟨Z, hsub, hadd, H⟩ := H.pushI X hb3 lo3 hlo_ hav_
 have hz0_5 := hsub _ _ hz0_5
 have r26_16_1 := r26_16_1.sub hadd
 have H : HZ w0 _ _ [_, _, _] _ := H
 refine z_store h H 2 rfl rfl rfl sizeOf51 [_, _, _, _, _, _, _] rfl rfl (by obtain ⟨_, _, _, e_⟩ := (r26_16_1).form; subst e_; rfl) (by simp) [_, _, _, _, _, _, _] rfl (hl' := [_, _, _]) rfl fun w H => ?_
 refine cz k ?_
 refine fl h ?_
 refine F1 rfl (fun w X => v_fieldAddr rfl underlying51 rfl sizeOf26 rfl rfl) ?_
 refine F1 rfl (fun w X => have H := H.ext X; lA H 2 isAgg26 sizeOf26 [_, _, _]) ?_
 refine fC hS rfl (fun y18 f18 w X => dC call14 (value_Num_ok f18 :)) fun y18 hS => ?_
 refine fB hS rfl (fun w X => v_aggeq rfl rfl age26 (agq26 _ _ _ _ _ _)) fun z19 e19 hS => ?_
 refine fcps 1 rfl ?_
 refine f_g [3, 31] rfl rfl rfl (gT rfl) rfl rfl (fun e0 w X => v_fieldAddr rfl underlying51 rfl sizeOf49 rfl rfl) ?_
 refine f_g [32, 31] rfl rfl rfl (gT rfl) rfl rfl (fun e0 w X => have H := H.ext X; v_load1 (eg e0 rfl) isAgg49 (H.hp.get 2 rfl) rfl) ?_
 refine f_g [33, 31] rfl rfl rfl (gT rfl) rfl rfl (fun e0 w X => have H := H.ext X; v_len underlying49 (eg e0 rfl) (r26_16_1.at H.zin)) ?_
 obtain ⟨z20, e20, hS⟩ := bv hS
 refine f_g [34, 31] rfl rfl rfl (gT rfl) rfl rfl (fun e0 w X => vB e20 (v_eq (eg e0 rfl) rfl)) ?_
 refine fB hS rfl (fun w X => v_and rfl rfl) fun z21 e21 hS => ?_
 refine fcps 1 rfl ?_
 refine f_g [3, 37] rfl rfl rfl (gT rfl) rfl rfl (fun e0 w X => v_fieldAddr rfl underlying51 rfl sizeOf49 rfl rfl) ?_
 refine f_g [38, 37] rfl rfl rfl (gT rfl) rfl rfl (fun e0 w X => have H := H.ext X; v_load1 (eg e0 rfl) isAgg49 (H.hp.get 2 rfl) rfl) ?_
 obtain ⟨c22, hS⟩ := ck hS
 obtain ⟨z23, e23, hS⟩ := bv hS
 refine f_gR (R := (fun w' v' => At w' v' cL z23 0)) (c := z21) [39, 37] rfl rfl rfl rfl rfl at_stab (fun w X => ?_) ?_
 skip
 exact ⟨(gT rfl), fun e0 => have H := H.ext X; d_idx underlying49 sizeOf28 (eg e0 rfl) rfl (r26_16_1.at H.zin) (fun _ => rfl) z23 (c22 e0).1 (by rw [e23]; exact gel_some (c22 e0))⟩
 refine f_gE (V := .agg #[.int .i64 z23.s, .int .i64 z23.c, .int .i64 z23.r]) (c := z21) [40, 37] rfl rfl rfl rfl rfl (fun w X => ?_) ?_
 intro v40 h40
 exact ⟨(gT rfl), fun e0 => (v_loadAtA [_, _, _] rfl (h40 e0) isAgg28 sizeOf28 rfl rfl).doesF⟩
 refine f_g [37] rfl rfl rfl (gT rfl) rfl rfl (fun e0 w X => v_build bld28 [] [_, _, _] evs_n rfl) ?_
 obtain ⟨z24, e24, hS⟩ := bv hS
 refine f_g [41, 42, 37] rfl rfl rfl (gT rfl) rfl rfl (fun e0 w X => vB e24 (v_aggeq (eg e0 rfl) (eg e0 rfl) age28 (agq28 _ _ _ _ _ _))) ?_
 refine fB hS rfl (fun w X => v_and rfl rfl) fun z25 e25 hS => ?_
 refine fcps 1 rfl ?_
 refine fE [0] [_] H fun a w X H h => ?_
 cases hS
 refine r1 hr h rfl rfl ⟨rfl, H.out⟩

theorem reckonerlaw13_EvalBooleans_ok {x0 : List (Bool)} {x1 : Int} {res : Bool} {w0 : World} (hS : reckonerlaw13_EvalBooleans x0 x1 = some res) {xv0 : Value} (rp0 : RdZ (hz w0) xv0 1 eB x0) : Calls Tryz.prog 4 [xv0, .int .i64 x1].toArray w0 (Ret fun v w => v = .bool res ∧ Ext w0 w) := by
 refine en func4 [0] [_] fun Q a Zi Z hzs H h hr => ?_
 have rp0 := rp0.sub hzs
 clear hzs
 unfold reckonerlaw13_EvalBooleans at hS
 refine rg fun K k => ?_
 refine cps 1 h rfl fun a h => ?_
 refine cz k ?_
 refine sq ?_
 refine rg fun K k => ?_
 refine sC h H hS rfl (fun y2 f2 => dC call22 (reckonerlaw13_fit_ok f2 :)) fun y2 hS w X H a h => ?_
 refine sB h hS rfl (v_not rfl) fun z3 e3 hS a h => ?_
 refine cz k ?_
 refine cI h hS rfl (fun ec4 hS => ?_) fun ec4 hS => ?_
 refine rg fun K k => ?_
 refine cps 1 h rfl fun a h => ?_
 refine cz k ?_
 cases hS
 refine r1 hr h rfl rfl ⟨rfl, H.out⟩
 refine c_skip ?_
 refine sq ?_
 refine rg fun K k => ?_
 refine cps 1 h rfl fun a h => ?_
 refine s1 h rfl (v_len underlying56 rfl (rp0.at H.zin)) fun a h => ?_
 refine sB h hS rfl (v_eq rfl rfl) fun z6 e6 hS a h => ?_
 refine cps 1 h rfl fun a h => ?_
 refine st_g h rfl rfl (gF rfl) rfl rfl (fun e0 => v_move rfl) fun a h => ?_
 refine st_g h rfl rfl (gF rfl) rfl rfl (fun e0 => v_len underlying56 (eg e0 rfl) (rp0.at H.zin)) fun a h => ?_
 obtain ⟨z7, e7, hS⟩ := bv hS
 refine st_g h rfl rfl (gF rfl) rfl rfl (fun e0 => vB e7 (v_gt (eg e0 rfl) rfl)) fun a h => ?_
 refine sB h hS rfl (v_or rfl rfl) fun z8 e8 hS a h => ?_
 refine cN k h [0, 26] [_, _] fun h => ?_
 refine cI h hS rfl (fun ec9 hS => ?_) fun ec9 hS => ?_
 refine rg fun K k => ?_
 refine cps 1 h rfl fun a h => ?_
 refine cz k ?_
 cases hS
 refine r1 hr h rfl rfl ⟨rfl, H.out⟩
 refine c_skip ?_
 refine rg fun K k => ?_
 obtain ⟨y10, f10, hS⟩ := bo hS
 refine st2 h rfl rfl rfl (dC call23 (reckonerlaw13_Place_ok f10 H.zin RdZ.nil)) ?_
 rintro v_ w ⟨p11, rfl, ⟨lo_0, hb_0, lp0⟩, X⟩ a h
 have H := H.pushF X hb_0 lo_0
 have H : HZ w0 _ _ [_] _ := H
 refine cps 1 h rfl fun a h => ?_
 refine cz k ?_
 refine rg fun K k => ?_
 refine cps 1 h rfl fun a h => ?_
 refine cz k ?_
 have H := H.nilRow 33 17 rfl
 have H : HZ w0 _ _ [_, _] _ := H
 have el1 : EL nodeEnc Z ([] : List (Cl 17)) ([] : List (Nd)) := trivial
 obtain ⟨J13, eJ13, hS⟩ := bv hS
 refine sqJ (fun a w => ∃ (Z : FZ) (s13 : (List (Nd)) × (List V)) (sv14 : Value) (cs14 : List (Cl 17)), J13 s13 = some res ∧ Fr 101 [(0, xv0), (5, .pointer (some ⟨p11, 0, none⟩)), (6, sv14)] a ∧ HZ w0 Zi Z [.blk p11 (Cel ((s13.2 : List V).flatMap vL) 39), .row 33 17 sv14 cs14.length (cs14.flatMap Subtype.val)] w ∧ EL nodeEnc Z cs14 s13.1 ∧ RdZ Z xv0 1 eB x0 ∧ s13.2.length = 128) ?_ ?_
 rintro a w ⟨Z, s13, sv14, cs14, hS, h, H, el1, rp0, lp0⟩
 subst eJ13
 obtain ⟨Z, hsub, H, rz1_15⟩ := H.freezeRowN (E := nodeEnc) 1 rfl el1
 have rp0 := rp0.sub hsub
 have H : HZ w0 _ _ [_, _] _ := H
 obtain ⟨Z, hsub, H, hz0_16⟩ := H.freezeB 0 rfl rfl
 have rp0 := rp0.sub hsub
 have rz1_15 := rz1_15.sub hsub
 have H : HZ w0 _ _ [_, _] _ := H
 refine sq ?_
 refine rg fun K k => ?_
 refine cps 1 h rfl fun a h => ?_
 refine s1 h rfl (v_len underlying56 rfl (rp0.at H.zin)) fun a h => ?_
 refine sB h hS rfl (v_gt rfl rfl) fun z18 e18 hS a h => ?_
 refine cz k ?_
 refine cI h hS rfl (fun ec19 hS => ?_) fun ec19 hS => ?_
 refine rg fun K k => ?_
 refine cps 1 h rfl fun a h => ?_
 refine cN k h [4] [_] fun h => ?_
 cases hS
 refine r1 hr h rfl rfl ⟨rfl, H.out⟩
 refine c_skip ?_
 obtain ⟨J21, eJ21, hS⟩ := bv hS
 refine sqJ (fun a w => ∃ (Z : FZ) (s21 : Unit), J21 s21 = some res ∧ Fr 101 [] a ∧ HZ w0 Zi Z [.row 0 1 (.slice none 0 0) 0 [], .row 33 17 (.slice none 0 0) 0 []] w ∧ Z p11 = some (Cel ((s13.2 : List V).flatMap vL) 39)) ?_ ?_
 rintro a w ⟨Z, s21, hS, h, H, hz0_16⟩
 subst eJ21
 refine rg fun K k => ?_
 refine cps 1 h rfl fun a h => ?_
 refine cz k ?_
 cases hS
 refine r1 hr h rfl rfl ⟨rfl, H.out⟩
 refine rg fun K k => ?_
 refine z_slice (enc := (eI .i64)) ([3, 4] : List (Int)) h H underlying60 sizeOf3 zeroValue3 rfl (zl := [.int .i64 0, .int .i64 0]) (by kernel_rfl) (plA_get 2 1) [_, _] [_, _] rfl rfl rfl rfl rfl fun a v59_22 Z w hsub X H r59_22 h => ?_
 have rp0 := rp0.sub hsub
 have rz1_15 := rz1_15.sub hsub
 have hz0_16 := hsub _ _ hz0_16
 refine s1 h rfl (v_len underlying60 rfl (r59_22.at H.zin)) fun a h => ?_
 refine cps 1 h rfl fun a h => ?_
 refine cz k ?_
 refine lb ?_
 obtain ⟨B24, eB24, hS⟩ := bv hS
 refine lpJ (fun mu_ a w => ∃ (Z : FZ) (s24 : Int), loopF B24 mu_ s24 = some res ∧ Fr 101 [(0, xv0), (5, .pointer (some ⟨p11, 0, none⟩)), (6, sv14), (59, v59_22), (60, .int .i64 ([3, 4].length : Int)), (61, .int .i64 s24)] a ∧ HZ w0 Zi Z [.row 0 1 (.slice none 0 0) 0 [], .row 33 17 (.slice none 0 0) 0 []] w ∧ RdZ Z xv0 1 eB x0 ∧ RdN Z sv14 nodeEnc s13.1 ∧ RdZ Z v59_22 1 (eI .i64) [3, 4] ∧ Z p11 = some (Cel ((s13.2 : List V).flatMap vL) 39)) KK ⟨_, _, hS, h.to, H, rp0, rz1_15, r59_22, hz0_16⟩ ?_
 rintro mu_ a w ⟨Z, s24, hS, h, H, rp0, rz1_15, r59_22, hz0_16⟩
 obtain ⟨mu_, rfl, n24, en24, hS⟩ := lpX eB24 hS
 refine rg fun K k => ?_
 refine sB h hS rfl (v_lt rfl rfl) fun z26 e26 hS a h => ?_
 refine cz k ?_
 refine sq ?_
 refine cI h hS rfl (fun ec28 hS => ?_) fun ec28 hS => ?_
 refine c_skip ?_
 refine sb ?_
 refine rg fun K k => ?_
 obtain ⟨c30, hS⟩ := ck hS
 obtain ⟨z31, e31, hS⟩ := bv hS
 refine st_idx h underlying60 sizeOf3 rfl rfl (r59_22.at H.zin) (fun _ => rfl) z31 c30.1 (by rw [e31]; exact gel_some c30) rfl fun a v63 A63 h => ?_
 refine s1 h rfl (v_loadAt1 rfl A63 isAgg3 rfl) fun a h => ?_
 refine cps 1 h rfl fun a h => ?_
 refine cz k ?_
 refine rg fun K k => ?_
 refine cps 2 h rfl fun a h => ?_
 obtain ⟨y32, f32, hS⟩ := bo hS
 refine st2 h rfl rfl rfl (dC call26 (tree_Apply_ok (x0 := z31) (x1 := s13.1) f32 H.zin rz1_15)) ?_
 rintro v_ w ⟨v67_33_1, rfl, r67_33_1, X⟩ a h
 obtain ⟨Z, hsub, hadd, H⟩ := H.adopt' X
 have r59_22 := r59_22.sub hsub
 have rp0 := rp0.sub hsub
 have rz1_15 := rz1_15.sub hsub
 have hz0_16 := hsub _ _ hz0_16
 have r67_33_1 := r67_33_1.sub hadd
 have A63 := At.ext A63 X
 refine s1 h rfl (v_build bld28 [_] [_, _, _] rfl rfl) fun a h => ?_
 refine cps 1 h rfl fun a h => ?_
 refine s1 h rfl (v_mkIface mkI rfl) fun a h => ?_
 obtain ⟨y34, f34, hS⟩ := bo hS
 refine st2 h rfl rfl rfl (dC call19 (eval_Eval_ok f34 H.zin r67_33_1 hz0_16 lp0)) ?_
 rintro v_ w ⟨v71_35_1, rfl, r71_35_1, X⟩ a h
 obtain ⟨Z, hsub, hadd, H⟩ := H.adopt' X
 have r59_22 := r59_22.sub hsub
 have r67_33_1 := r67_33_1.sub hsub
 have rp0 := rp0.sub hsub
 have rz1_15 := rz1_15.sub hsub
 have hz0_16 := hsub _ _ hz0_16
 have r71_35_1 := r71_35_1.sub (ZB.empty.trans hadd)
 have A63 := At.ext A63 X
 refine zA h H zeroValue51 [_, _, _, _, _, _, _] (fun x => [_, _, x]) fun a p36 w X H h => ?_
 have A63 := At.ext A63 X
 refine z_store h H 2 rfl rfl rfl sizeOf51 [_, _, _, _, _, _, _] rfl rfl (by obtain ⟨_, _, _, e_⟩ := (r71_35_1).form; subst e_; rfl) (by simp) [_, _, _, _, _, _, _] rfl (hl' := [_, _, _]) rfl fun w H => ?_
 refine cN k h [0, 5, 6, 11, 12, 59, 60, 61] [_, _, _, _, _, _, _, _] fun h => ?_
 refine rg fun K k => ?_
 refine cps 1 h rfl fun a h => ?_
 refine sB h hS rfl (v_eq rfl rfl) fun z37 e37 hS a h => ?_
 refine cps 2 h rfl fun a h => ?_
 refine cz k ?_
 obtain ⟨J39, eJ39, hS⟩ := bv hS
 refine sqJ (fun a w => ∃ (Z : FZ) (s39 : Bool × Int), J39 s39 = some res ∧ Fr 101 [(0, xv0), (5, .pointer (some ⟨p11, 0, none⟩)), (6, sv14), (12, .pointer (some ⟨p36, 0, none⟩)), (13, .bool s39.1), (14, .int .i64 s39.2), (59, v59_22), (60, .int .i64 ([3, 4].length : Int)), (61, .int .i64 s24)] a ∧ HZ w0 Zi Z [.row 0 1 (.slice none 0 0) 0 [], .row 33 17 (.slice none 0 0) 0 [], .blk p36 (Cel [.int .i64 y34.v.k, .int .i64 y34.v.n, S y34.v.s, .int .i64 y34.c.s, .int .i64 y34.c.c, .int .i64 y34.c.r, v71_35_1] 51)] w ∧ RdZ Z xv0 1 eB x0 ∧ RdN Z sv14 nodeEnc s13.1 ∧ RdZ Z v59_22 1 (eI .i64) [3, 4] ∧ RdZ Z v71_35_1 3 cL y34.l ∧ Z p11 = some (Cel ((s13.2 : List V).flatMap vL) 39)) ?_ ?_
 rintro a w ⟨Z, s39, hS, h, H, rp0, rz1_15, r59_22, r71_35_1, hz0_16⟩
 subst eJ39
 refine fl h ?_
 refine F1 rfl (fun w X => v_fieldAddr rfl underlying51 rfl sizeOf26 rfl rfl) ?_
 refine F1 rfl (fun w X => have H := H.ext X; lA H 2 isAgg26 sizeOf26 [_, _, _]) ?_
 refine fcps 1 rfl ?_
 refine fC hS rfl (fun y40 f40 w X => dC call24 (value_Bool_ok f40 :)) fun y40 hS => ?_
 refine fB hS rfl (fun w X => v_aggne rfl rfl age26 (agq26 _ _ _ _ _ _)) fun z41 e41 hS => ?_
 refine fcps 1 rfl ?_
 refine f_g [12, 93] rfl rfl rfl (gF rfl) rfl rfl (fun e0 w X => v_fieldAddr rfl underlying51 rfl sizeOf49 rfl rfl) ?_
 refine f_g [94, 93] rfl rfl rfl (gF rfl) rfl rfl (fun e0 w X => have H := H.ext X; v_load1 (eg e0 rfl) isAgg49 (H.hp.get 2 rfl) rfl) ?_
 refine f_g [95, 93] rfl rfl rfl (gF rfl) rfl rfl (fun e0 w X => have H := H.ext X; v_len underlying49 (eg e0 rfl) (r71_35_1.at H.zin)) ?_
 refine f_g [14, 93] rfl rfl rfl (gF rfl) rfl rfl (fun e0 w X => v_move rfl) ?_
 obtain ⟨z42, e42, hS⟩ := bv hS
 refine f_g [96, 97, 93] rfl rfl rfl (gF rfl) rfl rfl (fun e0 w X => vB e42 (v_ne (eg e0 rfl) (eg e0 rfl))) ?_
 refine fB hS rfl (fun w X => v_or rfl rfl) fun z43 e43 hS => ?_
 refine fE [0, 5, 6, 59, 60, 61, 99] [_, _, _, _, _, _, _] H fun a w X H h => ?_
 refine cI h hS rfl (fun ec44 hS => ?_) fun ec44 hS => ?_
 refine rg fun K k => ?_
 refine cps 1 h rfl fun a h => ?_
 refine cN k h [4] [_] fun h => ?_
 cases hS
 refine r1 hr h rfl rfl ⟨rfl, H.out⟩
 refine c_skip ?_
 refine c_lregion ?_
 refine sI h hS rfl (v_addw rfl rfl) fun z45 e45 hS a h => ?_
 refine cps 1 h rfl fun a h => ?_
 refine c_lnil ?_
 exact exL (ex2 ⟨lpN en24 hS, h.to, (H.keepN 2 rfl), rp0, rz1_15, r59_22, hz0_16⟩)
 refine rg fun K k => ?_
 refine cps 1 h rfl fun a h => ?_
 refine s1 h rfl (v_len underlying56 rfl (rp0.at H.zin)) fun a h => ?_
 refine cps 1 h rfl fun a h => ?_
 refine cz k ?_
 refine lb ?_
 obtain ⟨B47, eB47, hS⟩ := bv hS
 refine lpJ (fun mu_ a w => ∃ (Z : FZ) (s47 : Bool × Int × Int), loopF B47 mu_ s47 = some res ∧ Fr 101 [(0, xv0), (5, .pointer (some ⟨p11, 0, none⟩)), (6, sv14), (11, .int .i64 z31), (12, .pointer (some ⟨p36, 0, none⟩)), (13, .bool s47.1), (14, .int .i64 s47.2.1), (59, v59_22), (60, .int .i64 ([3, 4].length : Int)), (61, .int .i64 s24), (74, xv0), (75, .int .i64 (x0.length : Int)), (76, .int .i64 s47.2.2)] a ∧ HZ w0 Zi Z [.row 0 1 (.slice none 0 0) 0 [], .row 33 17 (.slice none 0 0) 0 [], .blk p36 (Cel [.int .i64 y34.v.k, .int .i64 y34.v.n, S y34.v.s, .int .i64 y34.c.s, .int .i64 y34.c.c, .int .i64 y34.c.r, v71_35_1] 51)] w ∧ RdZ Z xv0 1 eB x0 ∧ RdN Z sv14 nodeEnc s13.1 ∧ RdZ Z v59_22 1 (eI .i64) [3, 4] ∧ RdZ Z v71_35_1 3 cL y34.l ∧ Z p11 = some (Cel ((s13.2 : List V).flatMap vL) 39)) KK ⟨_, _, hS, h.to, H, rp0, rz1_15, r59_22, r71_35_1, hz0_16⟩ ?_
 rintro mu_ a w ⟨Z, s47, hS, h, H, rp0, rz1_15, r59_22, r71_35_1, hz0_16⟩
 obtain ⟨mu_, rfl, n47, en47, hS⟩ := lpX eB47 hS
 refine rg fun K k => ?_
 refine sB h hS rfl (v_lt rfl rfl) fun z49 e49 hS a h => ?_
 refine cz k ?_
 refine sq ?_
 refine cI h hS rfl (fun ec51 hS => ?_) fun ec51 hS => ?_
 refine c_skip ?_
 refine sb ?_
 refine rg fun K k => ?_
 obtain ⟨c53, hS⟩ := ck hS
 obtain ⟨z54, e54, hS⟩ := bv hS
 refine st_idx h underlying56 sizeOf4 rfl rfl (rp0.at H.zin) (fun _ => rfl) z54 c53.1 (by rw [e54]; exact gel_some c53) rfl fun a v78 A78 h => ?_
 refine s1 h rfl (v_loadAt1 rfl A78 isAgg4 rfl) fun a h => ?_
 refine cps 1 h rfl fun a h => ?_
 refine cz k ?_
 refine rg fun K k => ?_
 refine cps 1 h rfl fun a h => ?_
 refine sI h hS rfl (v_addw rfl rfl) fun z55 e55 hS a h => ?_
 refine cps 1 h rfl fun a h => ?_
 refine cN k h [0, 5, 6, 11, 12, 13, 14, 16, 59, 60, 61, 74, 75, 76] [_, _, _, _, _, _, _, _, _, _, _, _, _, _] fun h => ?_
 refine rg fun K k => ?_
 refine cps 2 h rfl fun a h => ?_
 refine sB h hS rfl (v_eq rfl rfl) fun z56 e56 hS a h => ?_
 refine sB h hS rfl (v_beq underlying4 rfl rfl) fun z57 e57 hS a h => ?_
 refine cz k ?_
 refine cI h hS rfl (fun ec58 hS => ?_) fun ec58 hS => ?_
 refine rg fun K k => ?_
 refine cps 2 h rfl fun a h => ?_
 refine cN k h [0, 5, 6, 12, 13, 14, 59, 60, 61] [_, _, _, _, _, _, _, _, _] fun h => ?_
 exact c_exit (ex2 ⟨hS, h.to, H, rp0, rz1_15, r59_22, r71_35_1, hz0_16⟩)
 refine c_skip ?_
 refine cO h [0, 5, 6, 11, 12, 13, 14, 59, 60, 61, 74, 75, 76] [_, _, _, _, _, _, _, _, _, _, _, _, _] fun h => ?_
 refine c_lregion ?_
 refine sI h hS rfl (v_addw rfl rfl) fun z59 e59 hS a h => ?_
 refine cps 1 h rfl fun a h => ?_
 refine c_lnil ?_
 exact exL (ex2 ⟨lpN en47 hS, h.to, H, rp0, rz1_15, r59_22, r71_35_1, hz0_16⟩)
 exact c_exit (ex2 ⟨hS, h.to, H, rp0, rz1_15, r59_22, r71_35_1, hz0_16⟩)
 exact c_exit (exU1 ⟨hS, h.to, H, hz0_16⟩)
 refine rg fun K k => ?_
 refine cps 1 h rfl fun a h => ?_
 refine s1 h rfl (v_len underlying56 rfl (rp0.at H.zin)) fun a h => ?_
 refine cps 1 h rfl fun a h => ?_
 refine cz k ?_
 refine lb ?_
 obtain ⟨B61, eB61, hS⟩ := bv hS
 refine lpJ (fun mu_ a w => ∃ (Z : FZ) (s61 : Int × (List (Nd)) × (List V)) (sv63 : Value) (cs63 : List (Cl 17)), loopF B61 mu_ s61 = some res ∧ Fr 101 [(0, xv0), (5, .pointer (some ⟨p11, 0, none⟩)), (6, sv63), (28, xv0), (29, .int .i64 (x0.length : Int)), (30, .int .i64 s61.1)] a ∧ HZ w0 Zi Z [.blk p11 (Cel ((s61.2.2 : List V).flatMap vL) 39), .row 33 17 sv63 cs63.length (cs63.flatMap Subtype.val)] w ∧ EL nodeEnc Z cs63 s61.2.1 ∧ RdZ Z xv0 1 eB x0 ∧ s61.2.2.length = 128) KK ⟨_, _, _, _, hS, h.to, H, el1, rp0, lp0⟩ ?_
 rintro mu_ a w ⟨Z, s61, sv63, cs63, hS, h, H, el1, rp0, lp0⟩
 obtain ⟨mu_, rfl, n61, en61, hS⟩ := lpX eB61 hS
 refine rg fun K k => ?_
 refine sB h hS rfl (v_lt rfl rfl) fun z64 e64 hS a h => ?_
 refine cz k ?_
 refine sq ?_
 refine cI h hS rfl (fun ec66 hS => ?_) fun ec66 hS => ?_
 refine c_skip ?_
 refine sb ?_
 refine rg fun K k => ?_
 refine cps 1 h rfl fun a h => ?_
 obtain ⟨c68, hS⟩ := ck hS
 obtain ⟨z69, e69, hS⟩ := bv hS
 refine st_idx h underlying56 sizeOf4 rfl rfl (rp0.at H.zin) (fun _ => rfl) z69 c68.1 (by rw [e69]; exact gel_some c68) rfl fun a v33 A33 h => ?_
 refine s1 h rfl (v_loadAt1 rfl A33 isAgg4 rfl) fun a h => ?_
 refine cps 2 h rfl fun a h => ?_
 refine cN k h [0, 5, 6, 7, 8, 28, 29, 30] [_, _, _, _, _, _, _, _] fun h => ?_
 refine flT 10 h fun K k => ?_
 refine fcps 2 rfl ?_
 refine fI hS rfl (fun w X => v_mulw rfl rfl) fun z70 e70 hS => ?_
 refine fI hS rfl (fun w X => v_rem rfl rfl (by decide)) fun z71 e71 hS => ?_
 refine fcps 1 rfl ?_
 refine fC hS rfl (fun y72 f72 w X => dC call24 (value_Bool_ok f72 :)) fun y72 hS => ?_
 refine F1 rfl (fun w X => v_nilCheck rfl) ?_
 refine F1 rfl (fun w X => v_fieldAddr rfl underlying39 rfl sizeOf37 rfl rfl) ?_
 refine F1 rfl (fun w X => v_idxArrG underlying37 sizeOf36 rfl rfl (by decide)) ?_
 obtain ⟨c73, hS⟩ := ck hS
 refine F1 rfl (fun w X => v_idxArrG underlying36 sizeOf26 rfl rfl c73) ?_
 refine fE [0, 5, 6, 7, 28, 29, 30, 40, 44] [_, _, _, _, _, _, _, _, _] H fun a w X H h => ?_
 obtain ⟨zp0_74, ezp0_74, hS⟩ := bv hS
 refine z_storeEl (enc := vL) (xs := s61.2.2) (v := y72) (Int.toNat (64 * 0 + z71)) h H 0 rfl rfl rfl sizeOf26 (fun _ => rfl) rfl (by omega) (by dsimp only; omega) (hl' := [_, _]) rfl fun w H => ?_
 rw [← ezp0_74] at H
 have lp0 : zp0_74.length = 128 := by rw [ezp0_74, List.length_set]; exact lp0
 have H : HZ w0 _ _ [_, _] _ := H
 refine cz k ?_
 refine rg fun K k => ?_
 refine s1 h rfl (v_build bld30 [] [_, _, _, _, _] rfl rfl) fun a h => ?_
 refine zA h H zeroValue30 [_, _, _, _, _] (fun x => [_, _, x]) fun a p75 w X H h => ?_
 refine zS h H 2 sizeOf30 [_, _, _, _, _] [_, _, _, _, _] [_, _, _] fun w H => ?_
 refine cz k ?_
 refine rg fun K k => ?_
 refine cps 1 h rfl fun a h => ?_
 refine sI h hS rfl (v_rem rfl rfl (by decide)) fun z76 e76 hS a h => ?_
 refine s1 h rfl (v_fieldAddr rfl underlying30 rfl sizeOf28 rfl rfl) fun a h => ?_
 refine s1 h rfl (v_fieldAddr rfl underlying28 rfl sizeOf3 rfl rfl) fun a h => ?_
 refine zS h H 2 sizeOf3 [_] [_, _, _, _, _] [_, _, _] fun w H => ?_
 refine cN k h [0, 5, 6, 9, 28, 29, 30] [_, _, _, _, _, _, _] fun h => ?_
 refine c_lregion ?_
 refine cps 1 h rfl fun a h => ?_
 refine s1 h rfl (lA H 2 isAgg30 sizeOf30 [_, _, _, _, _]) fun a h => ?_
 obtain ⟨y77, f77, hS⟩ := bo hS
 refine st2 h rfl rfl rfl (dC call25 (tree_Cell_ok (x0 := (⟨(⟨0, 0, z76⟩ : C), false, false⟩ : Rf)) f77)) ?_
 rintro v_ w ⟨v52_78_1, rfl, r52_78_1, X⟩ a h
 obtain ⟨Z, hsub, hadd, H⟩ := H.adopt' X
 have el1 := el1.sub hsub
 have rp0 := rp0.sub hsub
 have r52_78_1 := r52_78_1.sub (ZB.empty.trans hadd)
 refine z_slice (enc := (Subtype.val (p := fun l : List Value => l.length = 17))) ([⟨[.int .i64 y77.k, .int .i64 y77.op, .int .i64 y77.v.k, .int .i64 y77.v.n, S y77.v.s, .int .i64 y77.a.c.s, .int .i64 y77.a.c.c, .int .i64 y77.a.c.r, .bool y77.a.ac, .bool y77.a.ar, .int .i64 y77.b.c.s, .int .i64 y77.b.c.c, .int .i64 y77.b.c.r, .bool y77.b.ac, .bool y77.b.ar, S y77.nm, v52_78_1], rfl⟩] : List (Cl 17)) h H underlying31 sizeOf33 zeroValue33 rfl (zl := [.int .i64 0, .int .i64 0, .int .i64 0, .int .i64 0, S [], .int .i64 0, .int .i64 0, .int .i64 0, .bool false, .bool false, .int .i64 0, .int .i64 0, .int .i64 0, .bool false, .bool false, S [], .slice none 0 0]) (by kernel_rfl) (plA_get 1 17) [_] [_, _, _, _, _, _, _, _, _, _, _, _, _, _, _, _, _] rfl rfl rfl rfl rfl fun a v53_79 Z w hsub X H r53_79 h => ?_
 have el1 := el1.sub hsub
 have r52_78_1 := r52_78_1.sub hsub
 have rp0 := rp0.sub hsub
 have r53_79 : RdN Z v53_79 nodeEnc [y77] := ⟨_, r53_79, ⟨node_mk ⟨_, rfl, r52_78_1⟩, trivial⟩⟩
 obtain ⟨c81, hS⟩ := ck hS
 obtain ⟨z82, e82, hS⟩ := bv hS
 obtain ⟨cy_80, ry_80, ey_80⟩ := id r53_79
 refine z_appendS (enc := (Subtype.val (p := fun l : List Value => l.length = 17))) (out := cs63) (data := cy_80) h H 1 rfl underlying31 app33 rfl rfl rfl ry_80 (fun c => c.2) ey_80.one (bnd el1.len ey_80.len c81) rfl fun a v54_80 w H h => ?_
 have el1 := EL.append el1 ey_80
 rw [← e82] at el1
 have el1 : EL nodeEnc Z (List.append (α := Cl 17) cs63 cy_80) z82 := el1
 have H : HZ w0 _ _ [_, _, _] _ := H
 refine cps 1 h rfl fun a h => ?_
 refine c_lnil ?_
 refine cO h [0, 5, 6, 28, 29, 30] [_, _, _, _, _, _] fun h => ?_
 refine c_lregion ?_
 refine sI h hS rfl (v_addw rfl rfl) fun z83 e83 hS a h => ?_
 refine cps 1 h rfl fun a h => ?_
 refine c_lnil ?_
 exact exL (ex4 ⟨lpN en61 hS, h.to, (H.keepN 2 rfl), el1, rp0, lp0⟩)
 exact c_exit (ex4 ⟨hS, h.to, H, el1, rp0, lp0⟩)
end Go.Proofs.YtcecjdnkcbfhlaaGreatDoor
