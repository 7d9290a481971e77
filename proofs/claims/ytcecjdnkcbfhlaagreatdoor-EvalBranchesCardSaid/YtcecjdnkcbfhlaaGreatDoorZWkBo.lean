/- Joined texts. -/
import Derived.Test.YtcecjdnkcbfhlaaGreatDoorZU0
import Derived.Test.YtcecjdnkcbfhlaaGreatDoorZWkEv
set_option linter.unusedSimpArgs false
set_option linter.unusedVariables false
set_option linter.unusedSectionVars false
namespace Go.Proofs.YtcecjdnkcbfhlaaGreatDoor
open Go.Stp Go.RowKit Go.ValP Go.Sp _root_.Go.Proofs.Tryz
set_option maxRecDepth 100000
theorem reckonerlaw13_fit_ok  {res : Bool} {w0 : World} (hS : reckonerlaw13_fit  = some res) (hG : GW w0) : Calls Tryz.prog 22 [].toArray w0 (Ret fun v w => v = .bool res ∧ Ext w0 w) := by
 refine en func22 [] [] fun Q a Zi Z hzs H h hr => ?_
 clear hzs
 unfold reckonerlaw13_fit at hS
 refine rg fun K k => cps 1 h rfl fun a h => cz k <| rg fun K k => s1 (V := .agg (zeroPl.flatMap vL).toArray) h rfl (v_buildZ bldZ) fun a h => ?_
 refine z_box h H rfl (zeroPl.flatMap vL) rfl rfl fun a p1 w X H h => ?_
 have H : HZ w0 _ _ [_] _ := H
 have lp0 := zeroPl_len
 refine cps 1 h rfl fun a h => cz k <| flT 6 h fun K k => ?_
 refine fcps 1 rfl ?_
 refine fC hS rfl (fun y2 f2 w X => dC call14 (value_Num_ok f2 :)) fun y2 hS => ?_
 refine F1 rfl (fun w X => v_nilCheck rfl) ?_
 refine F1 rfl (fun w X => v_fieldAddr rfl underlying39 rfl sizeOf37 rfl rfl) ?_
 refine F1 rfl (fun w X => v_idxArrG underlying37 sizeOf36 rfl rfl (by decide)) ?_
 refine F1 rfl (fun w X => v_idxArrG underlying36 Z26 rfl rfl (by decide)) ?_
 refine fE [1, 7, 11] O3 H fun a w X H h => ?_
 obtain ⟨zp0_3, ezp0_3, hS⟩ := bv hS
 refine z_storeEl (enc := vL) (xs := zeroPl) (v := y2) (Int.toNat (64 * 0 + 0)) h H 0 rfl rfl rfl Z26 (fun _ => rfl) rfl (by omega) (by dsimp only; omega) (hl' := [_]) rfl fun w H => ?_
 rw [← ezp0_3] at H
 have lp0 : zp0_3.length = 128 := by rw [ezp0_3, List.length_set]; exact lp0
 have H : HZ w0 _ _ [_] _ := H
 refine cz k <| rg fun K k => s1 h rfl (v_build bld30 [] O5 rfl rfl) fun a h => ?_
 refine zA h H zeroValue30 O5 (fun x => [_, x]) fun a p4 w X H h => ?_
 refine zS h H 1 Z30 O5 O5 O2 fun w H => ?_
 refine cz k <| rg fun K k => s1 h rfl (v_fieldAddr rfl U30 rfl Z28 rfl rfl) fun a h => ?_
 refine s1 h rfl (v_fieldAddr rfl U28 rfl Z3 rfl rfl) fun a h => ?_
 refine zS h H 1 Z3 [_] O5 O2 fun w H => ?_
 refine cN k h [1, 2] O2 fun h => ?_
 obtain ⟨Z, hsub, H, hz0_5⟩ := H.freezeB 0 rfl rfl
 have H : HZ w0 _ _ O2 _ := H
 refine flT 13 h fun K k => ?_
 refine fC hS rfl (fun y6 f6 w X => dC call24 (value_Bool_ok f6 :)) fun y6 hS => ?_
 obtain ⟨y7, f7, hS⟩ := bo hS
 refine f_op [15] rfl rfl rfl rfl false (.rel (fun w' v' => ∃ v16_8_1, v' = .agg #[.int .i64 y7.k, .int .i64 y7.op, .int .i64 y7.v.k, .int .i64 y7.v.n, S y7.v.s, .int .i64 y7.a.c.s, .int .i64 y7.a.c.c, .int .i64 y7.a.c.r, .bool y7.a.ac, .bool y7.a.ar, .int .i64 y7.b.c.s, .int .i64 y7.b.c.c, .int .i64 y7.b.c.r, .bool y7.b.ac, .bool y7.b.ar, S y7.nm, v16_8_1] ∧ RdN (ZB Z w.heap.size w') v16_8_1 nodeEnc y7.l)) (fun w w' v X h => by obtain ⟨v16_8_1, hv, hr0⟩ := h; exact ⟨_, hv, hr0.sub (ZB.grow X)⟩) (fun w X => ?_) ?_
 skip
 exact have Hs := ZB.of H.zin X; have H := H.ext X; Does.doesR (dC call32 (tree_Value_ok (x0 := y6) f7)) (fun v w' hr => by obtain ⟨v16_8_1, hv, hr0, X'⟩ := hr; exact ⟨⟨_, hv, hr0.sub (ZB.back X X')⟩, X'⟩)
 refine F1 rfl (fun w X => v_build bld30 [] O5 rfl rfl) ?_
 obtain ⟨y9, f9, hS⟩ := bo hS
 refine f_op [17] rfl rfl rfl rfl false (.rel (fun w' v' => ∃ v18_10_1, v' = .agg #[.int .i64 y9.k, .int .i64 y9.op, .int .i64 y9.v.k, .int .i64 y9.v.n, S y9.v.s, .int .i64 y9.a.c.s, .int .i64 y9.a.c.c, .int .i64 y9.a.c.r, .bool y9.a.ac, .bool y9.a.ar, .int .i64 y9.b.c.s, .int .i64 y9.b.c.c, .int .i64 y9.b.c.r, .bool y9.b.ac, .bool y9.b.ar, S y9.nm, v18_10_1] ∧ RdN (ZB Z w.heap.size w') v18_10_1 nodeEnc y9.l)) (fun w w' v X h => by obtain ⟨v18_10_1, hv, hr0⟩ := h; exact ⟨_, hv, hr0.sub (ZB.grow X)⟩) (fun w X => ?_) ?_
 skip
 exact have Hs := ZB.of H.zin X; have H := H.ext X; Does.doesR (dC call25 (tree_Cell_ok (x0 := (⟨(⟨0, 0, 0⟩ : C), false, false⟩ : Rf)) f9)) (fun v w' hr => by obtain ⟨v18_10_1, hv, hr0, X'⟩ := hr; exact ⟨⟨_, hv, hr0.sub (ZB.back X X')⟩, X'⟩)
 refine F1 rfl (fun w X => have H := H.ext X; lA H 1 isAgg30 Z30 O5) ?_
 obtain ⟨y11, f11, hS⟩ := bo hS
 refine f_op [19] rfl rfl rfl rfl false (.rel (fun w' v' => ∃ v20_12_1, v' = .agg #[.int .i64 y11.k, .int .i64 y11.op, .int .i64 y11.v.k, .int .i64 y11.v.n, S y11.v.s, .int .i64 y11.a.c.s, .int .i64 y11.a.c.c, .int .i64 y11.a.c.r, .bool y11.a.ac, .bool y11.a.ar, .int .i64 y11.b.c.s, .int .i64 y11.b.c.c, .int .i64 y11.b.c.r, .bool y11.b.ac, .bool y11.b.ar, S y11.nm, v20_12_1] ∧ RdN (ZB Z w.heap.size w') v20_12_1 nodeEnc y11.l)) (fun w w' v X h => by obtain ⟨v20_12_1, hv, hr0⟩ := h; exact ⟨_, hv, hr0.sub (ZB.grow X)⟩) (fun w X => ?_) ?_
 skip
 exact have Hs := ZB.of H.zin X; have H := H.ext X; Does.doesR (dC call25 (tree_Cell_ok (x0 := (⟨(⟨0, 1, 0⟩ : C), false, false⟩ : Rf)) f11)) (fun v w' hr => by obtain ⟨v20_12_1, hv, hr0, X'⟩ := hr; exact ⟨⟨_, hv, hr0.sub (ZB.back X X')⟩, X'⟩)
 refine f_op [16, 18, 20] rfl rfl rfl rfl false (.rel (fun w' v' => RdN (ZB Z w.heap.size w') v' nodeEnc ([y7, y9, y11] : List (Nd)))) rn_stab (fun w X => ?_) ?_
 intro v16 h16 v18 h18 v20 h20
 obtain ⟨v16_8_1, rfl, r16_8_1⟩ := h16
 obtain ⟨v18_10_1, rfl, r18_10_1⟩ := h18
 obtain ⟨v20_12_1, rfl, r20_12_1⟩ := h20
 exact d_sliceRN (E := nodeEnc) (data := [y7, y9, y11]) ([⟨(nL y7 v16_8_1), rfl⟩, ⟨(nL y9 v18_10_1), rfl⟩, ⟨(nL y11 v20_12_1), rfl⟩] : List (Cl 17)) H.zin X U31 Z33 V33 rfl (zl := [.int .i64 0, .int .i64 0, .int .i64 0, .int .i64 0, S [], .int .i64 0, .int .i64 0, .int .i64 0, .bool false, .bool false, .int .i64 0, .int .i64 0, .int .i64 0, .bool false, .bool false, S [], .slice none 0 0, .int .i64 0, .int .i64 0, .int .i64 0, .int .i64 0, S [], .int .i64 0, .int .i64 0, .int .i64 0, .bool false, .bool false, .int .i64 0, .int .i64 0, .int .i64 0, .bool false, .bool false, S [], .slice none 0 0, .int .i64 0, .int .i64 0, .int .i64 0, .int .i64 0, S [], .int .i64 0, .int .i64 0, .int .i64 0, .bool false, .bool false, .int .i64 0, .int .i64 0, .int .i64 0, .bool false, .bool false, S [], .slice none 0 0]) kR (plA_get 3 17) O3 O51 rfl rfl rfl rfl ⟨node_mk ⟨_, rfl, r16_8_1⟩, node_mk ⟨_, rfl, r18_10_1⟩, node_mk ⟨_, rfl, r20_12_1⟩, trivial⟩
 obtain ⟨y13, f13, hS⟩ := bo hS
 refine f_op [21] rfl rfl rfl rfl false (.rel (fun w' v' => ∃ v22_14_1, v' = .agg #[.int .i64 y13.k, .int .i64 y13.op, .int .i64 y13.v.k, .int .i64 y13.v.n, S y13.v.s, .int .i64 y13.a.c.s, .int .i64 y13.a.c.c, .int .i64 y13.a.c.r, .bool y13.a.ac, .bool y13.a.ar, .int .i64 y13.b.c.s, .int .i64 y13.b.c.c, .int .i64 y13.b.c.r, .bool y13.b.ac, .bool y13.b.ar, S y13.nm, v22_14_1] ∧ RdN (ZB Z w.heap.size w') v22_14_1 nodeEnc y13.l)) (fun w w' v X h => by obtain ⟨v22_14_1, hv, hr0⟩ := h; exact ⟨_, hv, hr0.sub (ZB.grow X)⟩) (fun w X => ?_) ?_
 intro v21 h21
 exact have Hs := ZB.of H.zin X; have H := H.ext X; Does.doesR (dC call26 (tree_Apply_ok (x0 := (1 : Int)) (x1 := [y7, y9, y11]) f13 (ZB.inn H.zin) h21)) (fun v w' hr => by obtain ⟨v22_14_1, hv, hr0, X'⟩ := hr; exact ⟨⟨_, hv, hr0.sub (ZB.back2 X X')⟩, X'⟩)
 refine F1 rfl (fun w X => v_build bld28 [] O3 rfl rfl) ?_
 refine fcps 1 rfl ?_
 refine F1 rfl (fun w X => v_mkIface mkI rfl) ?_
 obtain ⟨y15, f15, hS⟩ := bo hS
 refine f_op [22, 23, 25] rfl rfl rfl rfl false (.ivl (fun lo hi w' v' => ∃ v26_16_1, v' = .agg #[.int .i64 y15.v.k, .int .i64 y15.v.n, S y15.v.s, .int .i64 y15.c.s, .int .i64 y15.c.c, .int .i64 y15.c.r, v26_16_1] ∧ RdZ (ZBt Z0 lo hi w') v26_16_1 3 cL y15.l)) (fun lo hi w w' v X h => by obtain ⟨v26_16_1, hv, hr0⟩ := h; exact ⟨_, hv, hr0.sub (ZBt.grow X)⟩) (fun w X => ?_) ?_
 intro v22 h22
 obtain ⟨v22_14_1, rfl, r22_14_1⟩ := h22
 exact have Hs := ZB.of H.zin X; have H := H.ext X; Does.doesI (dC call19 (eval_Eval_ok f15 (ZB.inn H.zin) r22_14_1 (Hs _ _ hz0_5) lp0 (hG.ext H.out))) (fun v w' hr => by obtain ⟨v26_16_1, hv, hr0, X'⟩ := hr; exact ⟨⟨_, hv, hr0.sub ZBt.of⟩, X'⟩)
 refine f_alloc V51 O7 rfl rfl ?_
 refine fn_ ?_
 intro a w X hR hA
 obtain ⟨_, ⟨p17, rfl, hb3⟩, vi26, _, h⟩ := hR.out [3, 26]
 have h : Fr 45 [(26, _), (3, _)] a := h
 obtain ⟨lo_, hi_, hlo_, ⟨v26_16_1, hv_, r26_16_1⟩, hav_⟩ := hA.iv 26 _ rfl
 rw [h.has 26 _ rfl] at hv_
 subst hv_
 have hav_ := hav_ 3 (by simp) (by decide) p17 (by rw [h.has 3 _ rfl]; rfl)
 have lo3 := hA.lo' h (s := 3) rfl rfl
 obtain ⟨Z, hsub, hadd, H⟩ := H.pushI X hb3 lo3 hlo_ hav_
 have hz0_5 := hsub _ _ hz0_5
 have r26_16_1 := r26_16_1.sub hadd
 have H : HZ w0 _ _ O3 _ := H
 refine z_store h H 2 rfl rfl rfl Z51 O7 rfl rfl (by obtain ⟨_, _, _, e_⟩ := (r26_16_1).form; subst e_; rfl) (by simp) O7 rfl (hl' := O3) rfl fun w H => ?_
 refine cz k <| fl h ?_
 refine F1 rfl (fun w X => v_fieldAddr rfl U51 rfl Z26 rfl rfl) ?_
 refine F1 rfl (fun w X => have H := H.ext X; lA H 2 A26 Z26 O3) ?_
 refine fC hS rfl (fun y18 f18 w X => dC call14 (value_Num_ok f18 :)) fun y18 hS => ?_
 refine fB hS rfl (fun w X => v_aggeq rfl rfl age26 (agq26 _ _ _ _ _ _)) fun z19 e19 hS => ?_
 refine fcps 1 rfl ?_
 refine f_g [3, 31] rfl rfl rfl (gT rfl) rfl rfl (fun e0 w X => v_fieldAddr rfl U51 rfl sizeOf49 rfl rfl) ?_
 refine f_g [32, 31] rfl rfl rfl (gT rfl) rfl rfl (fun e0 w X => have H := H.ext X; v_load1 (eg e0 rfl) isAgg49 (H.hp.get 2 rfl) rfl) ?_
 refine f_g [33, 31] rfl rfl rfl (gT rfl) rfl rfl (fun e0 w X => have H := H.ext X; v_len U49 (eg e0 rfl) (r26_16_1.at H.zin)) ?_
 obtain ⟨z20, e20, hS⟩ := bv hS
 refine f_g [34, 31] rfl rfl rfl (gT rfl) rfl rfl (fun e0 w X => vB e20 (v_eq (eg e0 rfl) rfl)) ?_
 refine fB hS rfl (fun w X => v_and rfl rfl) fun z21 e21 hS => ?_
 refine fcps 1 rfl ?_
 refine f_g [3, 37] rfl rfl rfl (gT rfl) rfl rfl (fun e0 w X => v_fieldAddr rfl U51 rfl sizeOf49 rfl rfl) ?_
 refine f_g [38, 37] rfl rfl rfl (gT rfl) rfl rfl (fun e0 w X => have H := H.ext X; v_load1 (eg e0 rfl) isAgg49 (H.hp.get 2 rfl) rfl) ?_
 obtain ⟨c22, hS⟩ := ck hS
 obtain ⟨z23, e23, hS⟩ := bv hS
 refine f_gR (R := (fun w' v' => At w' v' cL z23 0)) (c := z21) [39, 37] rfl rfl rfl rfl rfl at_stab (fun w X => ?_) ?_
 skip
 exact ⟨(gT rfl), fun e0 => have H := H.ext X; d_idx U49 Z28 (eg e0 rfl) rfl (r26_16_1.at H.zin) (fun _ => rfl) z23 (c22 e0).1 (by rw [e23]; exact gel_some (c22 e0))⟩
 refine f_gE (V := (cA z23)) (c := z21) [40, 37] rfl rfl rfl rfl rfl (fun w X => ?_) ?_
 intro v40 h40
 exact ⟨(gT rfl), fun e0 => (v_loadAtA O3 rfl (h40 e0) A28 Z28 rfl rfl).doesF⟩
 refine f_g [37] rfl rfl rfl (gT rfl) rfl rfl (fun e0 w X => v_build bld28 [] O3 evs_n rfl) ?_
 obtain ⟨z24, e24, hS⟩ := bv hS
 refine f_g [41, 42, 37] rfl rfl rfl (gT rfl) rfl rfl (fun e0 w X => vB e24 (v_aggeq (eg e0 rfl) (eg e0 rfl) age28 (agq28 _ _ _ _ _ _))) ?_
 refine fB hS rfl (fun w X => v_and rfl rfl) fun z25 e25 hS => ?_
 refine fcps 1 rfl ?_
 refine fE [0] [_] H fun a w X H h => ?_
 cases hS
 refine r1 hr h rfl rfl ⟨rfl, H.out⟩
end Go.Proofs.YtcecjdnkcbfhlaaGreatDoor
