/- Walks: the code computes what the partial functions say. -/
import Derived.Test.YtnmkeanoidadcaaGreatDoorSpI
import Derived.Test.YtnmkeanoidadcaaGreatDoorWkD
set_option linter.unusedSimpArgs false
set_option linter.unusedVariables false
set_option linter.unusedSectionVars false
namespace Go.Proofs.YtnmkeanoidadcaaGreatDoor
open Go.Stp Go.RowKit Go.ValP Go.Sp
set_option maxRecDepth 100000
theorem reckonerlaw12_FuncsAreas_ok {x0 : V} {x1 : V} {res : Bool} {w0 : World} (hS : reckonerlaw12_FuncsAreas x0 x1 = some res) (hG : GW w0) : Calls Tryz.prog 6 [.agg #[.int .i64 x0.k, .int .i64 x0.n, S x0.s], .agg #[.int .i64 x1.k, .int .i64 x1.n, S x1.s]].toArray w0 (Ret fun v w => v = .bool res ∧ Ext w0 w) := by
 refine enter Tryz.func6 rfl rfl rfl fun Q a h hret0 hnor => ?_
 obtain ⟨Zi, Z, H⟩ : ∃ Zi Z, HZ w0 Zi Z [] w0 := ⟨_, _, HZ.start w0⟩
 have h := h.only [0, 1] (l' := [_, _]) rfl
 unfold reckonerlaw12_FuncsAreas at hS
 refine c_region fun K hK => ?_
 refine z_box h H rfl [_, _, _] rfl rfl fun a p2_1 w X H h => ?_
 have H : HZ w0 _ _ [_] _ := H
 refine z_box h H rfl [_, _, _] rfl rfl fun a p3_2 w X H h => ?_
 have H : HZ w0 _ _ [_, _] _ := H
 refine st1 h rfl rfl rfl (v_assign rfl) fun a h => ?_
 refine c_nil hK ?_
 refine c_seq _ (fun a w c => c) fun Q3 hN3 hO3 => ?_
 have hret3 := hO3.ret hret0
 refine c_region fun K hK => ?_
 obtain ⟨y9_4, hy9_4, hS⟩ := bo hS
 refine st2v (T := Ext) (V := .bool y9_4) h rfl rfl rfl (d_call [] rfl Tryz.call7 (reckonerlaw12_fit_ok  hy9_4 (hG.ext H.out))) fun w X a h => ?_
 have H := H.ext X
 obtain ⟨z10_5, ez10_5, hS⟩ := bv hS
 refine st1 h rfl rfl rfl (vB ez10_5 (v_not rfl)) fun a h => ?_
 refine c_nil hK ?_
 have h := h.only [2, 3, 10] (l' := [_, _, _]) rfl
 refine c_cond h rfl (fun ec6 => ?_) (fun ec6 => ?_)
 ·
  have hS := ifT ec6 hS
  refine c_region fun K hK => ?_
  refine st1 h rfl rfl rfl (v_assign rfl) fun a h => ?_
  refine c_nil hK ?_
  obtain rfl := so hS
  refine c_ret (hret3 _ _ (out1 h rfl rfl ?_))
  exact ⟨rfl, H.out⟩
 ·
  have hS := ifF ec6 hS
  refine c_skip ?_
  refine hN3 _ _ ?_
  refine c_seq _ (fun a w c => c) fun Q7 hN7 hO7 => ?_
  have hret7 := hO7.ret hret0
  refine c_region fun K hK => ?_
  refine st1 h rfl rfl rfl (v_loadA [_, _, _] rfl Tryz.isAgg25 Tryz.sizeOf25 (H.hp.get 0 rfl) rfl rfl) fun a h => ?_
  obtain ⟨y12_8, hy12_8, hS⟩ := bo hS
  refine st2v (T := Ext) (V := .bool y12_8) h rfl rfl rfl (d_call [_] rfl Tryz.call8 (reckonerlaw12_good_ok (x0 := x0) hy12_8)) fun w X a h => ?_
  have H := H.ext X
  obtain ⟨z13_9, ez13_9, hS⟩ := bv hS
  refine st1 h rfl rfl rfl (vB ez13_9 (v_not rfl)) fun a h => ?_
  refine st1 h rfl rfl rfl (v_move rfl) fun a h => ?_
  refine st_g h rfl rfl (gF rfl) rfl rfl (fun e0 => v_loadA [_, _, _] rfl Tryz.isAgg25 Tryz.sizeOf25 (H.hp.get 1 rfl) rfl rfl) fun a h => ?_
  obtain ⟨y16_10, hy16_10, hS⟩ := bo hS
  refine st_gd (T := Ext) (V := .bool y16_10) h rfl rfl (gF rfl) rfl rfl (Ext.refl _) (fun e0 => d_call [_] (evs_c (eg e0 rfl) evs_n) Tryz.call8 (reckonerlaw12_good_ok (x0 := x1) (ifT e0 hy16_10))) fun w X a h => ?_
  have H := H.ext X
  obtain ⟨z17_11, ez17_11, hS⟩ := bv hS
  refine st_g h rfl rfl (gF rfl) rfl rfl (fun e0 => vB ez17_11 (v_not (eg e0 rfl))) fun a h => ?_
  obtain ⟨z18_12, ez18_12, hS⟩ := bv hS
  refine st1 h rfl rfl rfl (vB ez18_12 (v_or rfl rfl)) fun a h => ?_
  refine c_nil hK ?_
  have h := h.only [2, 3, 18] (l' := [_, _, _]) rfl
  refine c_cond h rfl (fun ec13 => ?_) (fun ec13 => ?_)
  ·
   have hS := ifT ec13 hS
   refine c_region fun K hK => ?_
   refine st1 h rfl rfl rfl (v_assign rfl) fun a h => ?_
   refine c_nil hK ?_
   obtain rfl := so hS
   refine c_ret (hret7 _ _ (out1 h rfl rfl ?_))
   exact ⟨rfl, H.out⟩
  ·
   have hS := ifF ec13 hS
   refine c_skip ?_
   refine hN7 _ _ ?_
   refine c_region fun K hK => ?_
   refine st1 h rfl rfl rfl (v_loadA [_, _, _] rfl Tryz.isAgg25 Tryz.sizeOf25 (H.hp.get 0 rfl) rfl rfl) fun a h => ?_
   refine z_slice (enc := vL) ([x0] : List (V)) h H Tryz.underlying22 Tryz.sizeOf25 Tryz.zeroValue25 rfl (zl := [.int .i64 0, .int .i64 0, S []]) (by kernel_rfl) (plA_get 1 3) [_] [_, _, _] rfl rfl rfl rfl rfl fun a v20_14 Z w hsub X H r20_14 h => ?_
   refine st1 h rfl rfl rfl (v_build bld29 [.bool true, .int .i64 1, v20_14] [.bool true, .int .i64 1, v20_14] rfl (by obtain ⟨_, _, _, e_⟩ := (r20_14).form; subst e_; rfl)) fun a h => ?_
   refine z_alloc h H Tryz.zeroValue29 [_, _, _] rfl rfl fun a p5_15 w X H h => ?_
   have H : HZ w0 _ _ [_, _, _] _ := H
   refine z_store h H 2 rfl rfl rfl Tryz.sizeOf29 [_, _, _] rfl rfl (by obtain ⟨_, _, _, e_⟩ := (r20_14).form; subst e_; rfl) (by simp) [_, _, _] rfl (hl' := [_, _, _]) rfl fun w H => ?_
   refine c_nil hK ?_
   have h := h.only [2, 3, 5] (l' := [_, _, _]) rfl
   obtain ⟨J17, eJ17, hS⟩ := bv hS
   refine c_seq (fun a w => ∃ (Z : FZ) (s17 : Unit), J17 s17 = some res ∧ Fr 65 [(2, .pointer (some ⟨p2_1, 0, none⟩)), (3, .pointer (some ⟨p3_2, 0, none⟩)), (5, .pointer (some ⟨p5_15, 0, none⟩))] a ∧ HZ w0 Zi Z [.blk p2_1 (Cel [.int .i64 x0.k, .int .i64 x0.n, S x0.s] 25), .blk p3_2 (Cel [.int .i64 x1.k, .int .i64 x1.n, S x1.s] 25), .blk p5_15 (Cel [.bool true, .int .i64 1, v20_14] 29)] w ∧ RdZ Z v20_14 3 vL [x0]) ?_ fun Q16 hN16 hO16 => ?_
   ·
    rintro a w ⟨Z, s17, hS, h, H, r20_14⟩
    subst eJ17
    refine c_flow h (by kernel_rfl) (by kernel_rfl) ?_
    obtain ⟨y41_18, hy41_18, hS⟩ := bo hS
    refine f2 (V := .int .i64 y41_18) [] rfl rfl rfl rfl (fun w X => have H := H.ext X; d_call [_] rfl Tryz.call16 (tree_Number_ok (x0 := ([69, 88, 65, 67, 84] : List UInt8)) hy41_18 (hG.ext H.out))) ?_
    refine f1 [5] rfl rfl rfl rfl (fun w X => have H := H.ext X; v_loadA [_, _, _] rfl Tryz.isAgg29 Tryz.sizeOf29 (H.hp.get 2 rfl) rfl rfl) ?_
    refine f1 [3] rfl rfl rfl rfl (fun w X => have H := H.ext X; v_loadA [_, _, _] rfl Tryz.isAgg25 Tryz.sizeOf25 (H.hp.get 1 rfl) rfl rfl) ?_
    obtain ⟨y44_19, hy44_19, hS⟩ := bo hS
    refine f_op [43] rfl rfl rfl rfl false (.rel (fun w' v' => ∃ v44_20_1, v' = .agg #[.bool y44_19.area, .int .i64 y44_19.cols, v44_20_1] ∧ RdZ (ZB Z w.heap.size w') v44_20_1 3 vL y44_19.l)) (fun w w' v X h => by obtain ⟨v44_20_1, hv, hr0⟩ := h; exact ⟨_, hv, hr0.sub (ZB.grow X)⟩) (fun w X => ?_) ?_
    ·
     skip
     exact have Hs := ZB.of H.zin X; have H := H.ext X; Does.doesR (d_call [_] rfl Tryz.call9 (funcs_Of_ok (x0 := x1) hy44_19 (ZB.inn H.zin))) (fun v w' hr => by obtain ⟨v44_20_1, hv, hr0, X'⟩ := hr; exact ⟨⟨_, hv, hr0.sub (ZB.back2 X X')⟩, X'⟩)
    refine f_op [42, 44] rfl rfl rfl rfl false (.rel (fun w' v' => RdN (ZB Z w.heap.size w') v' argEnc ([(⟨true, 1, [x0]⟩ : Arg), y44_19] : List (Arg)))) rn_stab (fun w X => ?_) ?_
    ·
     intro v44 h44
     obtain ⟨v44_20_1, rfl, r44_20_1⟩ := h44
     exact d_sliceRN (E := argEnc) (data := [(⟨true, 1, [x0]⟩ : Arg), y44_19]) ([⟨[.bool true, .int .i64 1, v20_14], rfl⟩, ⟨[.bool y44_19.area, .int .i64 y44_19.cols, v44_20_1], rfl⟩] : List (Cl 3)) H.zin X Tryz.underlying27 Tryz.sizeOf29 Tryz.zeroValue29 rfl (zl := [.bool false, .int .i64 0, .slice none 0 0, .bool false, .int .i64 0, .slice none 0 0]) (by kernel_rfl) (plA_get 2 3) [_, _] [_, _, _, _, _, _] rfl rfl rfl rfl ⟨⟨_, rfl, r20_14.sub (ZB.of H.zin X)⟩, ⟨_, rfl, r44_20_1⟩, trivial⟩
    obtain ⟨y46_21, hy46_21, hS⟩ := bo hS
    refine f_op [41, 45] rfl rfl rfl rfl false (.eq (.agg #[.int .i64 y46_21.k, .int .i64 y46_21.n, S y46_21.s])) trivial (fun w X => ?_) ?_
    ·
     intro v45 h45
     exact have Hs := ZB.of H.zin X; have H := H.ext X; Does.doesF (d_call [_, _] rfl Tryz.call10 (funcs_Apply_ok (x0 := y41_18) (x1 := ([(⟨true, 1, [x0]⟩ : Arg), y44_19])) hy46_21 (h45.hz (ZB.inn H.zin)) (hG.ext H.out)))
    obtain ⟨y47_22, hy47_22, hS⟩ := bo hS
    refine f2 (V := .int .i64 y47_22) [] rfl rfl rfl rfl (fun w X => have H := H.ext X; d_call [_] rfl Tryz.call16 (tree_Number_ok (x0 := ([69, 88, 65, 67, 84] : List UInt8)) hy47_22 (hG.ext H.out))) ?_
    refine f1 [2] rfl rfl rfl rfl (fun w X => have H := H.ext X; v_loadA [_, _, _] rfl Tryz.isAgg25 Tryz.sizeOf25 (H.hp.get 0 rfl) rfl rfl) ?_
    obtain ⟨y49_23, hy49_23, hS⟩ := bo hS
    refine f_op [48] rfl rfl rfl rfl false (.rel (fun w' v' => ∃ v49_24_1, v' = .agg #[.bool y49_23.area, .int .i64 y49_23.cols, v49_24_1] ∧ RdZ (ZB Z w.heap.size w') v49_24_1 3 vL y49_23.l)) (fun w w' v X h => by obtain ⟨v49_24_1, hv, hr0⟩ := h; exact ⟨_, hv, hr0.sub (ZB.grow X)⟩) (fun w X => ?_) ?_
    ·
     skip
     exact have Hs := ZB.of H.zin X; have H := H.ext X; Does.doesR (d_call [_] rfl Tryz.call9 (funcs_Of_ok (x0 := x0) hy49_23 (ZB.inn H.zin))) (fun v w' hr => by obtain ⟨v49_24_1, hv, hr0, X'⟩ := hr; exact ⟨⟨_, hv, hr0.sub (ZB.back2 X X')⟩, X'⟩)
    refine f1 [3] rfl rfl rfl rfl (fun w X => have H := H.ext X; v_loadA [_, _, _] rfl Tryz.isAgg25 Tryz.sizeOf25 (H.hp.get 1 rfl) rfl rfl) ?_
    obtain ⟨y51_25, hy51_25, hS⟩ := bo hS
    refine f_op [50] rfl rfl rfl rfl false (.rel (fun w' v' => ∃ v51_26_1, v' = .agg #[.bool y51_25.area, .int .i64 y51_25.cols, v51_26_1] ∧ RdZ (ZB Z w.heap.size w') v51_26_1 3 vL y51_25.l)) (fun w w' v X h => by obtain ⟨v51_26_1, hv, hr0⟩ := h; exact ⟨_, hv, hr0.sub (ZB.grow X)⟩) (fun w X => ?_) ?_
    ·
     skip
     exact have Hs := ZB.of H.zin X; have H := H.ext X; Does.doesR (d_call [_] rfl Tryz.call9 (funcs_Of_ok (x0 := x1) hy51_25 (ZB.inn H.zin))) (fun v w' hr => by obtain ⟨v51_26_1, hv, hr0, X'⟩ := hr; exact ⟨⟨_, hv, hr0.sub (ZB.back2 X X')⟩, X'⟩)
    refine f_op [49, 51] rfl rfl rfl rfl false (.rel (fun w' v' => RdN (ZB Z w.heap.size w') v' argEnc ([y49_23, y51_25] : List (Arg)))) rn_stab (fun w X => ?_) ?_
    ·
     intro v49 h49 v51 h51
     obtain ⟨v49_24_1, rfl, r49_24_1⟩ := h49
     obtain ⟨v51_26_1, rfl, r51_26_1⟩ := h51
     exact d_sliceRN (E := argEnc) (data := [y49_23, y51_25]) ([⟨[.bool y49_23.area, .int .i64 y49_23.cols, v49_24_1], rfl⟩, ⟨[.bool y51_25.area, .int .i64 y51_25.cols, v51_26_1], rfl⟩] : List (Cl 3)) H.zin X Tryz.underlying27 Tryz.sizeOf29 Tryz.zeroValue29 rfl (zl := [.bool false, .int .i64 0, .slice none 0 0, .bool false, .int .i64 0, .slice none 0 0]) (by kernel_rfl) (plA_get 2 3) [_, _] [_, _, _, _, _, _] rfl rfl rfl rfl ⟨⟨_, rfl, r49_24_1⟩, ⟨_, rfl, r51_26_1⟩, trivial⟩
    obtain ⟨y53_27, hy53_27, hS⟩ := bo hS
    refine f_op [47, 52] rfl rfl rfl rfl false (.eq (.agg #[.int .i64 y53_27.k, .int .i64 y53_27.n, S y53_27.s])) trivial (fun w X => ?_) ?_
    ·
     intro v52 h52
     exact have Hs := ZB.of H.zin X; have H := H.ext X; Does.doesF (d_call [_, _] rfl Tryz.call10 (funcs_Apply_ok (x0 := y47_22) (x1 := [y49_23, y51_25]) hy53_27 (h52.hz (ZB.inn H.zin)) (hG.ext H.out)))
    obtain ⟨z54_28, ez54_28, hS⟩ := bv hS
    refine f1 [46, 53] rfl rfl rfl rfl (fun w X => vB ez54_28 (v_aggeq rfl rfl age25 (agq25 _ _ _ _ _ _))) ?_
    refine f1 [54] rfl rfl rfl rfl (fun w X => v_move rfl) ?_
    obtain ⟨y56_29, hy56_29, hS⟩ := bo hS
    refine f_gd (V := .int .i64 y56_29) [55] rfl rfl rfl (gT rfl) rfl rfl (fun e0 w X => have H := H.ext X; d_call [_] rfl Tryz.call16 (tree_Number_ok (x0 := ([77, 65, 84, 67, 72] : List UInt8)) (ifT e0 hy56_29) (hG.ext H.out))) ?_
    refine f_g [2, 55] rfl rfl rfl (gT rfl) rfl rfl (fun e0 w X => have H := H.ext X; v_loadA [_, _, _] rfl Tryz.isAgg25 Tryz.sizeOf25 (H.hp.get 0 rfl) rfl rfl) ?_
    obtain ⟨y58_30, hy58_30, hS⟩ := bo hS
    refine f_gR (R := (fun w' v' => ∃ v58_31_1, v' = .agg #[.bool y58_30.area, .int .i64 y58_30.cols, v58_31_1] ∧ RdZ (ZB Z w.heap.size w') v58_31_1 3 vL y58_30.l)) (c := z54_28) [57, 55] rfl rfl rfl rfl rfl (fun w w' v X h => by obtain ⟨v58_31_1, hv, hr0⟩ := h; exact ⟨_, hv, hr0.sub (ZB.grow X)⟩) (fun w X => ?_) ?_
    ·
     skip
     exact ⟨(gT rfl), fun e0 => have Hs := ZB.of H.zin X; have H := H.ext X; Does.doesR (d_call [_] (evs_c (eg e0 rfl) evs_n) Tryz.call9 (funcs_Of_ok (x0 := x0) (ifT e0 hy58_30) (ZB.inn H.zin))) (fun v w' hr => by obtain ⟨v58_31_1, hv, hr0, X'⟩ := hr; exact ⟨⟨_, hv, hr0.sub (ZB.back2 X X')⟩, X'⟩)⟩
    refine f_g [5, 55] rfl rfl rfl (gT rfl) rfl rfl (fun e0 w X => have H := H.ext X; v_loadA [_, _, _] rfl Tryz.isAgg29 Tryz.sizeOf29 (H.hp.get 2 rfl) rfl rfl) ?_
    refine f_gR (R := (fun w' v' => RdN (ZB Z w.heap.size w') v' argEnc ([y58_30, (⟨true, 1, [x0]⟩ : Arg)] : List (Arg)))) (c := z54_28) [58, 59, 55] rfl rfl rfl rfl rfl rn_stab (fun w X => ?_) ?_
    ·
     intro v58 h58
     refine ⟨(gT rfl), fun e0 => ?_⟩
     obtain ⟨v58_31_1, rfl, r58_31_1⟩ := h58 e0
     exact d_sliceRN (E := argEnc) (data := [y58_30, (⟨true, 1, [x0]⟩ : Arg)]) ([⟨[.bool y58_30.area, .int .i64 y58_30.cols, v58_31_1], rfl⟩, ⟨[.bool true, .int .i64 1, v20_14], rfl⟩] : List (Cl 3)) H.zin X Tryz.underlying27 Tryz.sizeOf29 Tryz.zeroValue29 rfl (zl := [.bool false, .int .i64 0, .slice none 0 0, .bool false, .int .i64 0, .slice none 0 0]) (by kernel_rfl) (plA_get 2 3) [_, _] [_, _, _, _, _, _] (evs_c rfl (evs_c (eg e0 rfl) evs_n)) rfl rfl rfl ⟨⟨_, rfl, r58_31_1⟩, ⟨_, rfl, r20_14.sub (ZB.of H.zin X)⟩, trivial⟩
    obtain ⟨y61_32, hy61_32, hS⟩ := bo hS
    refine f_gE (V := .agg #[.int .i64 y61_32.k, .int .i64 y61_32.n, S y61_32.s]) (c := z54_28) [56, 60, 55] rfl rfl rfl rfl rfl (fun w X => ?_) ?_
    ·
     intro v60 h60
     exact ⟨(gT rfl), fun e0 => have Hs := ZB.of H.zin X; have H := H.ext X; Does.doesF (d_call [_, _] (evs_c (eg e0 rfl) (evs_c rfl evs_n)) Tryz.call10 (funcs_Apply_ok (x0 := y56_29) (x1 := ([y58_30, (⟨true, 1, [x0]⟩ : Arg)])) (ifT e0 hy61_32) ((h60 e0).hz (ZB.inn H.zin)) (hG.ext H.out)))⟩
    obtain ⟨y62_33, hy62_33, hS⟩ := bo hS
    refine f_gd (V := .agg #[.int .i64 y62_33.k, .int .i64 y62_33.n, S y62_33.s]) [55] rfl rfl rfl (gT rfl) rfl rfl (fun e0 w X => d_call [_] rfl Tryz.call22 (value_Num_ok (x0 := (1000000 : Int)) (ifT e0 hy62_33))) ?_
    obtain ⟨z63_34, ez63_34, hS⟩ := bv hS
    refine f_g [61, 62, 55] rfl rfl rfl (gT rfl) rfl rfl (fun e0 w X => vB ez63_34 (v_aggeq (eg e0 rfl) (eg e0 rfl) age25 (agq25 _ _ _ _ _ _))) ?_
    obtain ⟨z64_35, ez64_35, hS⟩ := bv hS
    refine f1 [55, 63] rfl rfl rfl rfl (fun w X => vB ez64_35 (v_and rfl rfl)) ?_
    refine f1 [64] rfl rfl rfl rfl (fun w X => v_assign rfl) ?_
    refine fn_ ?_
    intro a w X hR hA
    have h := hR.out [4]
    have h : Fr 65 [(4, _)] a := h
    have H := H.ext X
    obtain rfl := so hS
    refine c_ret (hret0 _ _ (out1 h rfl rfl ?_))
    exact ⟨rfl, H.out⟩
   ·
    have hret16 := hO16.ret hret0
    refine c_region fun K hK => ?_
    refine z_slice (enc := eS) ([([65, 66, 83] : List UInt8), ([76, 69, 78] : List UInt8), ([78, 79, 84] : List UInt8), ([73, 83, 84, 69, 88, 84] : List UInt8), ([83, 85, 77] : List UInt8), ([77, 65, 88] : List UInt8), ([67, 79, 85, 78, 84, 65] : List UInt8), ([82, 79, 87, 83] : List UInt8), ([67, 79, 76, 85, 77, 78, 83] : List UInt8), ([85, 80, 80, 69, 82] : List UInt8), ([73, 78, 84] : List UInt8), ([65, 86, 69, 82, 65, 71, 69] : List UInt8)] : List (List UInt8)) h H Tryz.underlying36 Tryz.sizeOf9 Tryz.zeroValue9 rfl (zl := [S [], S [], S [], S [], S [], S [], S [], S [], S [], S [], S [], S []]) (by kernel_rfl) (plA_get 12 1) [_, _, _, _, _, _, _, _, _, _, _, _] [_, _, _, _, _, _, _, _, _, _, _, _] rfl rfl rfl rfl rfl fun a v22_36 Z w hsub X H r22_36 h => ?_
    have r20_14 := r20_14.sub hsub
    refine st1 h rfl rfl rfl (v_len Tryz.underlying36 rfl (r22_36.at H.zin)) fun a h => ?_
    refine st1 h rfl rfl rfl (v_move rfl) fun a h => ?_
    refine c_nil hK ?_
    refine c_lblock fun Q37 hN37 hx0_37 hO37 => ?_
    have hret37 := hO37.ret hret16
    obtain ⟨B38, eB38, hS⟩ := bv hS
    refine c_loopN (fun mu_ a w => ∃ (Z : FZ) (s38 : Int), loopF B38 mu_ s38 = some res ∧ Fr 65 [(2, .pointer (some ⟨p2_1, 0, none⟩)), (3, .pointer (some ⟨p3_2, 0, none⟩)), (5, .pointer (some ⟨p5_15, 0, none⟩)), (22, v22_36), (23, .int .i64 ((([([65, 66, 83] : List UInt8), ([76, 69, 78] : List UInt8), ([78, 79, 84] : List UInt8), ([73, 83, 84, 69, 88, 84] : List UInt8), ([83, 85, 77] : List UInt8), ([77, 65, 88] : List UInt8), ([67, 79, 85, 78, 84, 65] : List UInt8), ([82, 79, 87, 83] : List UInt8), ([67, 79, 76, 85, 77, 78, 83] : List UInt8), ([85, 80, 80, 69, 82] : List UInt8), ([73, 78, 84] : List UInt8), ([65, 86, 69, 82, 65, 71, 69] : List UInt8)]).length : Int))), (24, .int .i64 s38)] a ∧ HZ w0 Zi Z [.blk p2_1 (Cel [.int .i64 x0.k, .int .i64 x0.n, S x0.s] 25), .blk p3_2 (Cel [.int .i64 x1.k, .int .i64 x1.n, S x1.s] 25), .blk p5_15 (Cel [.bool true, .int .i64 1, v20_14] 29)] w ∧ RdZ Z v22_36 1 eS ([([65, 66, 83] : List UInt8), ([76, 69, 78] : List UInt8), ([78, 79, 84] : List UInt8), ([73, 83, 84, 69, 88, 84] : List UInt8), ([83, 85, 77] : List UInt8), ([77, 65, 88] : List UInt8), ([67, 79, 85, 78, 84, 65] : List UInt8), ([82, 79, 87, 83] : List UInt8), ([67, 79, 76, 85, 77, 78, 83] : List UInt8), ([85, 80, 80, 69, 82] : List UInt8), ([73, 78, 84] : List UInt8), ([65, 86, 69, 82, 65, 71, 69] : List UInt8)]) ∧ RdZ Z v20_14 3 vL [x0]) KK ⟨_, 0, hS, (h.only [2, 3, 5, 22, 23, 24] (l' := [_, _, _, _, _, _]) rfl), H, r22_36, r20_14⟩ ?_
    rintro mu_ a w ⟨Z, s38, hS, h, H, r22_36, r20_14⟩ Q39 hN39 hO39
    obtain ⟨mu_, rfl, n38, en38, hS⟩ := lpX eB38 hS
    have hret39 := hO39.ret hret37
    have hx0_39 := hO39.exit (i := 0) rfl hx0_37
    refine c_region fun K hK => ?_
    obtain ⟨z25_40, ez25_40, hS⟩ := bv hS
    refine st1 h rfl rfl rfl (vB ez25_40 (v_lt rfl rfl)) fun a h => ?_
    refine c_nil hK ?_
    refine c_seq _ (fun a w c => c) fun Q41 hN41 hO41 => ?_
    have hret41 := hO41.ret hret39
    have hx0_41 := hO41.exit (i := 0) rfl hx0_39
    refine c_cond h rfl (fun ec42 => ?_) (fun ec42 => ?_)
    ·
     have hS := ifT ec42 hS
     refine c_skip ?_
     refine hN41 _ _ ?_
     refine c_block _ (fun a w c => c) fun Q43 hN43 hx1_43 hO43 => ?_
     have hret43 := hO43.ret hret39
     have hx0_43 := hO43.exit (i := 0) rfl hx0_39
     refine c_region fun K hK => ?_
     obtain ⟨c44, hS⟩ := ck hS
     obtain ⟨z26_45, ez26_45, hS⟩ := bv hS
     refine st_idx h Tryz.underlying36 Tryz.sizeOf9 rfl rfl (r22_36.at H.zin) (fun _ => rfl) z26_45 c44.1 (by rw [ez26_45]; exact gel_some c44) rfl fun a v26 A26 h => ?_
     refine st1 h rfl rfl rfl (v_loadAt1 rfl A26 Tryz.isAgg9 rfl) fun a h => ?_
     refine st1 h rfl rfl rfl (v_assign rfl) fun a h => ?_
     refine c_nil hK ?_
     refine c_region fun K hK => ?_
     refine st1 h rfl rfl rfl (v_move rfl) fun a h => ?_
     obtain ⟨y29_46, hy29_46, hS⟩ := bo hS
     refine st2v (T := Ext) (V := .int .i64 y29_46) h rfl rfl rfl (d_call [_] rfl Tryz.call16 (tree_Number_ok (x0 := z26_45) hy29_46 (hG.ext H.out))) fun w X a h => ?_
     have H := H.ext X
     have A26 := At.ext A26 X
     refine st1 h rfl rfl rfl (v_assign rfl) fun a h => ?_
     refine c_nil hK ?_
     have h := h.only [2, 3, 5, 8, 22, 23, 24] (l' := [_, _, _, _, _, _, _]) rfl
     refine c_flow h (by kernel_rfl) (by kernel_rfl) ?_
     refine f1 [8] rfl rfl rfl rfl (fun w X => v_move rfl) ?_
     refine f1 [5] rfl rfl rfl rfl (fun w X => have H := H.ext X; v_loadA [_, _, _] rfl Tryz.isAgg29 Tryz.sizeOf29 (H.hp.get 2 rfl) rfl rfl) ?_
     refine f_op [31] rfl rfl rfl rfl false (.rel (fun w' v' => RdN (ZB Z w.heap.size w') v' argEnc ([(⟨true, 1, [x0]⟩ : Arg)] : List (Arg)))) rn_stab (fun w X => ?_) ?_
     ·
      skip
      exact d_sliceRN (E := argEnc) (data := [(⟨true, 1, [x0]⟩ : Arg)]) ([⟨[.bool true, .int .i64 1, v20_14], rfl⟩] : List (Cl 3)) H.zin X Tryz.underlying27 Tryz.sizeOf29 Tryz.zeroValue29 rfl (zl := [.bool false, .int .i64 0, .slice none 0 0]) (by kernel_rfl) (plA_get 1 3) [_] [_, _, _] rfl rfl rfl rfl ⟨⟨_, rfl, r20_14.sub (ZB.of H.zin X)⟩, trivial⟩
     obtain ⟨y33_47, hy33_47, hS⟩ := bo hS
     refine f_op [30, 32] rfl rfl rfl rfl false (.eq (.agg #[.int .i64 y33_47.k, .int .i64 y33_47.n, S y33_47.s])) trivial (fun w X => ?_) ?_
     ·
      intro v32 h32
      exact have Hs := ZB.of H.zin X; have H := H.ext X; Does.doesF (d_call [_, _] rfl Tryz.call10 (funcs_Apply_ok (x0 := y29_46) (x1 := ([(⟨true, 1, [x0]⟩ : Arg)])) hy33_47 (h32.hz (ZB.inn H.zin)) (hG.ext H.out)))
     refine f1 [8] rfl rfl rfl rfl (fun w X => v_move rfl) ?_
     refine f1 [2] rfl rfl rfl rfl (fun w X => have H := H.ext X; v_loadA [_, _, _] rfl Tryz.isAgg25 Tryz.sizeOf25 (H.hp.get 0 rfl) rfl rfl) ?_
     obtain ⟨y36_48, hy36_48, hS⟩ := bo hS
     refine f_op [35] rfl rfl rfl rfl false (.rel (fun w' v' => ∃ v36_49_1, v' = .agg #[.bool y36_48.area, .int .i64 y36_48.cols, v36_49_1] ∧ RdZ (ZB Z w.heap.size w') v36_49_1 3 vL y36_48.l)) (fun w w' v X h => by obtain ⟨v36_49_1, hv, hr0⟩ := h; exact ⟨_, hv, hr0.sub (ZB.grow X)⟩) (fun w X => ?_) ?_
     ·
      skip
      exact have Hs := ZB.of H.zin X; have H := H.ext X; Does.doesR (d_call [_] rfl Tryz.call9 (funcs_Of_ok (x0 := x0) hy36_48 (ZB.inn H.zin))) (fun v w' hr => by obtain ⟨v36_49_1, hv, hr0, X'⟩ := hr; exact ⟨⟨_, hv, hr0.sub (ZB.back2 X X')⟩, X'⟩)
     refine f_op [36] rfl rfl rfl rfl false (.rel (fun w' v' => RdN (ZB Z w.heap.size w') v' argEnc ([y36_48] : List (Arg)))) rn_stab (fun w X => ?_) ?_
     ·
      intro v36 h36
      obtain ⟨v36_49_1, rfl, r36_49_1⟩ := h36
      exact d_sliceRN (E := argEnc) (data := [y36_48]) ([⟨[.bool y36_48.area, .int .i64 y36_48.cols, v36_49_1], rfl⟩] : List (Cl 3)) H.zin X Tryz.underlying27 Tryz.sizeOf29 Tryz.zeroValue29 rfl (zl := [.bool false, .int .i64 0, .slice none 0 0]) (by kernel_rfl) (plA_get 1 3) [_] [_, _, _] rfl rfl rfl rfl ⟨⟨_, rfl, r36_49_1⟩, trivial⟩
     obtain ⟨y38_50, hy38_50, hS⟩ := bo hS
     refine f_op [34, 37] rfl rfl rfl rfl false (.eq (.agg #[.int .i64 y38_50.k, .int .i64 y38_50.n, S y38_50.s])) trivial (fun w X => ?_) ?_
     ·
      intro v37 h37
      exact have Hs := ZB.of H.zin X; have H := H.ext X; Does.doesF (d_call [_, _] rfl Tryz.call10 (funcs_Apply_ok (x0 := y29_46) (x1 := [y36_48]) hy38_50 (h37.hz (ZB.inn H.zin)) (hG.ext H.out)))
     obtain ⟨z39_51, ez39_51, hS⟩ := bv hS
     refine f1 [33, 38] rfl rfl rfl rfl (fun w X => vB ez39_51 (v_aggne rfl rfl age25 (agq25 _ _ _ _ _ _))) ?_
     refine fn_ ?_
     intro a w X hR hA
     have h := hR.out [2, 3, 5, 22, 23, 24, 39]
     have h : Fr 65 [(39, _), (24, _), (23, _), (22, _), (5, _), (3, _), (2, _)] a := h
     have H := H.ext X
     refine c_cond h rfl (fun ec52 => ?_) (fun ec52 => ?_)
     ·
      have hS := ifT ec52 hS
      refine c_region fun K hK => ?_
      refine st1 h rfl rfl rfl (v_assign rfl) fun a h => ?_
      refine c_nil hK ?_
      have h := h.only [4] (l' := [_]) rfl
      obtain rfl := so hS
      refine c_ret (hret43 _ _ (out1 h rfl rfl ?_))
      exact ⟨rfl, H.out⟩
     ·
      have hS := ifF ec52 hS
      refine c_skip ?_
      refine hN43 _ _ ?_
      refine c_lregion ?_
      obtain ⟨z40_53, ez40_53, hS⟩ := bv hS
      refine st1 h rfl rfl rfl (vI ez40_53 (v_addw rfl rfl)) fun a h => ?_
      refine st1 h rfl rfl rfl (v_move rfl) fun a h => ?_
      refine c_lnil ?_
      exact hN39 _ _ _ (Nat.lt_succ_self _) ⟨_, z40_53, lpN en38 hS, (h.only [2, 3, 5, 22, 23, 24] (l' := [_, _, _, _, _, _]) rfl), H, r22_36, r20_14⟩
    ·
     have hS := ifF ec42 hS
     refine c_exit ?_
     refine hx0_41 _ _ ?_
     exact hN16 _ _ ⟨_, (), hS, (h.only [2, 3, 5] (l' := [_, _, _]) rfl), H, r20_14⟩
end Go.Proofs.YtnmkeanoidadcaaGreatDoor
