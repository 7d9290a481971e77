/- Walks: the code computes what the partial functions say. -/
import Derived.Test.YtnmkeanoidadcaaGreatDoorSpH
import Derived.Test.YtnmkeanoidadcaaGreatDoorWkD
set_option linter.unusedSimpArgs false
set_option linter.unusedVariables false
set_option linter.unusedSectionVars false
namespace Go.Proofs.YtnmkeanoidadcaaGreatDoor
open Go.Stp Go.RowKit Go.ValP Go.Sp
set_option maxRecDepth 100000
theorem reckonerlaw12_FuncsTexts_ok {x0 : V} {x1 : V} {x2 : V} {res : Bool} {w0 : World} (hS : reckonerlaw12_FuncsTexts x0 x1 x2 = some res) (hG : GW w0) : Calls Tryz.prog 5 [.agg #[.int .i64 x0.k, .int .i64 x0.n, S x0.s], .agg #[.int .i64 x1.k, .int .i64 x1.n, S x1.s], .agg #[.int .i64 x2.k, .int .i64 x2.n, S x2.s]].toArray w0 (Ret fun v w => v = .bool res ∧ Ext w0 w) := by
 refine enter Tryz.func5 rfl rfl rfl fun Q a h hret0 hnor => ?_
 obtain ⟨Zi, Z, H⟩ : ∃ Zi Z, HZ w0 Zi Z [] w0 := ⟨_, _, HZ.start w0⟩
 have h := h.only [0, 1, 2] (l' := [_, _, _]) rfl
 unfold reckonerlaw12_FuncsTexts at hS
 refine c_region fun K hK => ?_
 refine z_box h H rfl [_, _, _] rfl rfl fun a p3_1 w X H h => ?_
 have H : HZ w0 _ _ [_] _ := H
 refine z_box h H rfl [_, _, _] rfl rfl fun a p4_2 w X H h => ?_
 have H : HZ w0 _ _ [_, _] _ := H
 refine z_box h H rfl [_, _, _] rfl rfl fun a p5_3 w X H h => ?_
 have H : HZ w0 _ _ [_, _, _] _ := H
 refine st1 h rfl rfl rfl (v_assign rfl) fun a h => ?_
 refine c_nil hK ?_
 have h := h.only [3, 4, 5] (l' := [_, _, _]) rfl
 refine c_seq _ (fun a w c => c) fun Q4 hN4 hO4 => ?_
 have hret4 := hO4.ret hret0
 refine c_region fun K hK => ?_
 obtain ⟨y14_5, hy14_5, hS⟩ := bo hS
 refine st2v (T := Ext) (V := .bool y14_5) h rfl rfl rfl (d_call [] rfl Tryz.call7 (reckonerlaw12_fit_ok  hy14_5 (hG.ext H.out))) fun w X a h => ?_
 have H := H.ext X
 obtain ⟨z15_6, ez15_6, hS⟩ := bv hS
 refine st1 h rfl rfl rfl (vB ez15_6 (v_not rfl)) fun a h => ?_
 refine c_nil hK ?_
 refine c_cond h rfl (fun ec7 => ?_) (fun ec7 => ?_)
 ·
  have hS := ifT ec7 hS
  refine c_region fun K hK => ?_
  refine st1 h rfl rfl rfl (v_assign rfl) fun a h => ?_
  refine c_nil hK ?_
  have h := h.only [6] (l' := [_]) rfl
  obtain rfl := so hS
  refine c_ret (hret4 _ _ (out1 h rfl rfl ?_))
  exact ⟨rfl, H.out⟩
 ·
  have hS := ifF ec7 hS
  refine c_skip ?_
  refine hN4 _ _ ?_
  refine c_seq _ (fun a w c => c) fun Q8 hN8 hO8 => ?_
  have hret8 := hO8.ret hret0
  refine c_region fun K hK => ?_
  refine st1 h rfl rfl rfl (v_loadA [_, _, _] rfl Tryz.isAgg25 Tryz.sizeOf25 (H.hp.get 0 rfl) rfl rfl) fun a h => ?_
  obtain ⟨y17_9, hy17_9, hS⟩ := bo hS
  refine st2v (T := Ext) (V := .bool y17_9) h rfl rfl rfl (d_call [_] rfl Tryz.call8 (reckonerlaw12_good_ok (x0 := x0) hy17_9)) fun w X a h => ?_
  have H := H.ext X
  obtain ⟨z18_10, ez18_10, hS⟩ := bv hS
  refine st1 h rfl rfl rfl (vB ez18_10 (v_not rfl)) fun a h => ?_
  refine st1 h rfl rfl rfl (v_move rfl) fun a h => ?_
  refine st_g h rfl rfl (gF rfl) rfl rfl (fun e0 => v_loadA [_, _, _] rfl Tryz.isAgg25 Tryz.sizeOf25 (H.hp.get 1 rfl) rfl rfl) fun a h => ?_
  obtain ⟨y21_11, hy21_11, hS⟩ := bo hS
  refine st_gd (T := Ext) (V := .bool y21_11) h rfl rfl (gF rfl) rfl rfl (Ext.refl _) (fun e0 => d_call [_] (evs_c (eg e0 rfl) evs_n) Tryz.call8 (reckonerlaw12_good_ok (x0 := x1) (ifT e0 hy21_11))) fun w X a h => ?_
  have H := H.ext X
  obtain ⟨z22_12, ez22_12, hS⟩ := bv hS
  refine st_g h rfl rfl (gF rfl) rfl rfl (fun e0 => vB ez22_12 (v_not (eg e0 rfl))) fun a h => ?_
  obtain ⟨z23_13, ez23_13, hS⟩ := bv hS
  refine st1 h rfl rfl rfl (vB ez23_13 (v_or rfl rfl)) fun a h => ?_
  refine st1 h rfl rfl rfl (v_move rfl) fun a h => ?_
  refine st_g h rfl rfl (gF rfl) rfl rfl (fun e0 => v_loadA [_, _, _] rfl Tryz.isAgg25 Tryz.sizeOf25 (H.hp.get 2 rfl) rfl rfl) fun a h => ?_
  obtain ⟨y26_14, hy26_14, hS⟩ := bo hS
  refine st_gd (T := Ext) (V := .bool y26_14) h rfl rfl (gF rfl) rfl rfl (Ext.refl _) (fun e0 => d_call [_] (evs_c (eg e0 rfl) evs_n) Tryz.call8 (reckonerlaw12_good_ok (x0 := x2) (ifT e0 hy26_14))) fun w X a h => ?_
  have H := H.ext X
  obtain ⟨z27_15, ez27_15, hS⟩ := bv hS
  refine st_g h rfl rfl (gF rfl) rfl rfl (fun e0 => vB ez27_15 (v_not (eg e0 rfl))) fun a h => ?_
  obtain ⟨z28_16, ez28_16, hS⟩ := bv hS
  refine st1 h rfl rfl rfl (vB ez28_16 (v_or rfl rfl)) fun a h => ?_
  refine c_nil hK ?_
  have h := h.only [3, 4, 5, 28] (l' := [_, _, _, _]) rfl
  refine c_cond h rfl (fun ec17 => ?_) (fun ec17 => ?_)
  ·
   have hS := ifT ec17 hS
   refine c_region fun K hK => ?_
   refine st1 h rfl rfl rfl (v_assign rfl) fun a h => ?_
   refine c_nil hK ?_
   have h := h.only [6] (l' := [_]) rfl
   obtain rfl := so hS
   refine c_ret (hret8 _ _ (out1 h rfl rfl ?_))
   exact ⟨rfl, H.out⟩
  ·
   have hS := ifF ec17 hS
   refine c_skip ?_
   refine hN8 _ _ ?_
   refine c_flow h (by kernel_rfl) (by kernel_rfl) ?_
   refine f1 [3] rfl rfl rfl rfl (fun w X => have H := H.ext X; v_loadA [_, _, _] rfl Tryz.isAgg25 Tryz.sizeOf25 (H.hp.get 0 rfl) rfl rfl) ?_
   obtain ⟨y30_18, hy30_18, hS⟩ := bo hS
   refine f2 (V := S y30_18) [29] rfl rfl rfl rfl (fun w X => have H := H.ext X; d_call [_] rfl Tryz.call18 (value_Show_ok (x0 := x0) hy30_18 (hG.ext H.out))) ?_
   refine f1 [4] rfl rfl rfl rfl (fun w X => have H := H.ext X; v_loadA [_, _, _] rfl Tryz.isAgg25 Tryz.sizeOf25 (H.hp.get 1 rfl) rfl rfl) ?_
   obtain ⟨y32_19, hy32_19, hS⟩ := bo hS
   refine f2 (V := S y32_19) [31] rfl rfl rfl rfl (fun w X => have H := H.ext X; d_call [_] rfl Tryz.call18 (value_Show_ok (x0 := x1) hy32_19 (hG.ext H.out))) ?_
   refine f1 [5] rfl rfl rfl rfl (fun w X => have H := H.ext X; v_loadA [_, _, _] rfl Tryz.isAgg25 Tryz.sizeOf25 (H.hp.get 2 rfl) rfl rfl) ?_
   obtain ⟨y34_20, hy34_20, hS⟩ := bo hS
   refine f2 (V := S y34_20) [33] rfl rfl rfl rfl (fun w X => have H := H.ext X; d_call [_] rfl Tryz.call18 (value_Show_ok (x0 := x2) hy34_20 (hG.ext H.out))) ?_
   refine f1 [30] rfl rfl rfl rfl (fun w X => v_assign rfl) ?_
   refine f1 [32] rfl rfl rfl rfl (fun w X => v_assign rfl) ?_
   refine f1 [34] rfl rfl rfl rfl (fun w X => v_assign rfl) ?_
   refine fn_ ?_
   intro a w X hR hA
   have h := hR.out [3, 4, 5, 7, 8, 9]
   have h : Fr 131 [(9, _), (8, _), (7, _), (5, _), (4, _), (3, _)] a := h
   have H := H.ext X
   obtain ⟨J22, eJ22, hS⟩ := bv hS
   refine c_seq (fun a w => ∃ (Z : FZ) (s22 : Unit), J22 s22 = some res ∧ Fr 131 [(3, .pointer (some ⟨p3_1, 0, none⟩)), (4, .pointer (some ⟨p4_2, 0, none⟩)), (5, .pointer (some ⟨p5_3, 0, none⟩)), (7, S y30_18), (8, S y32_19), (9, S y34_20)] a ∧ HZ w0 Zi Z [.blk p3_1 (Cel [.int .i64 x0.k, .int .i64 x0.n, S x0.s] 25), .blk p4_2 (Cel [.int .i64 x1.k, .int .i64 x1.n, S x1.s] 25), .blk p5_3 (Cel [.int .i64 x2.k, .int .i64 x2.n, S x2.s] 25)] w) ?_ fun Q21 hN21 hO21 => ?_
   ·
    rintro a w ⟨Z, s22, hS, h, H⟩
    subst eJ22
    refine c_region fun K hK => ?_
    refine st1 h rfl rfl rfl (v_loadA [_, _, _] rfl Tryz.isAgg25 Tryz.sizeOf25 (H.hp.get 1 rfl) rfl rfl) fun a h => ?_
    obtain ⟨y53_23, hy53_23, hS⟩ := bo hS
    refine st2v (T := Ext) (V := .agg #[.int .i64 y53_23.k, .int .i64 y53_23.n, S y53_23.s]) h rfl rfl rfl (d_call [_] rfl Tryz.call14 (value_ToNum_ok (x0 := x1) hy53_23)) fun w X a h => ?_
    have H := H.ext X
    refine z_alloc h H Tryz.zeroValue25 [_, _, _] rfl rfl fun a p12_24 w X H h => ?_
    have H : HZ w0 _ _ [_, _, _, _] _ := H
    refine z_store h H 3 rfl rfl rfl Tryz.sizeOf25 [_, _, _] rfl rfl rfl (by simp) [_, _, _] rfl (hl' := [_, _, _, _]) rfl fun w H => ?_
    refine c_nil hK ?_
    refine c_region fun K hK => ?_
    refine st1 h rfl rfl rfl (v_loadA [_, _, _] rfl Tryz.isAgg25 Tryz.sizeOf25 (H.hp.get 3 rfl) rfl rfl) fun a h => ?_
    refine z_alloc h H Tryz.zeroValue25 [_, _, _] rfl rfl fun a p13_25 w X H h => ?_
    have H : HZ w0 _ _ [_, _, _, _, _] _ := H
    refine z_store h H 4 rfl rfl rfl Tryz.sizeOf25 [_, _, _] rfl rfl rfl (by simp) [_, _, _] rfl (hl' := [_, _, _, _, _]) rfl fun w H => ?_
    refine c_nil hK ?_
    obtain ⟨J27, eJ27, hS⟩ := bv hS
    refine c_seq (fun a w => ∃ (Z : FZ) (s27 : Int × Int × (List UInt8)), J27 s27 = some res ∧ Fr 131 [(3, .pointer (some ⟨p3_1, 0, none⟩)), (4, .pointer (some ⟨p4_2, 0, none⟩)), (5, .pointer (some ⟨p5_3, 0, none⟩)), (7, S y30_18), (8, S y32_19), (9, S y34_20), (13, .pointer (some ⟨p13_25, 0, none⟩))] a ∧ HZ w0 Zi Z [.blk p3_1 (Cel [.int .i64 x0.k, .int .i64 x0.n, S x0.s] 25), .blk p4_2 (Cel [.int .i64 x1.k, .int .i64 x1.n, S x1.s] 25), .blk p5_3 (Cel [.int .i64 x2.k, .int .i64 x2.n, S x2.s] 25), .blk p12_24 (Cel [.int .i64 y53_23.k, .int .i64 y53_23.n, S y53_23.s] 25), .blk p13_25 (Cel [.int .i64 s27.1, .int .i64 s27.2.1, S s27.2.2] 25)] w) ?_ fun Q26 hN26 hO26 => ?_
    ·
     rintro a w ⟨Z, s27, hS, h, H⟩
     subst eJ27
     refine c_flow h (by kernel_rfl) (by kernel_rfl) ?_
     obtain ⟨y63_28, hy63_28, hS⟩ := bo hS
     refine f2 (V := .int .i64 y63_28) [] rfl rfl rfl rfl (fun w X => have H := H.ext X; d_call [_] rfl Tryz.call16 (tree_Number_ok (x0 := ([67, 79, 78, 67, 65, 84] : List UInt8)) hy63_28 (hG.ext H.out))) ?_
     refine f1 [3] rfl rfl rfl rfl (fun w X => have H := H.ext X; v_loadA [_, _, _] rfl Tryz.isAgg25 Tryz.sizeOf25 (H.hp.get 0 rfl) rfl rfl) ?_
     obtain ⟨y65_29, hy65_29, hS⟩ := bo hS
     refine f_op [64] rfl rfl rfl rfl false (.rel (fun w' v' => ∃ v65_30_1, v' = .agg #[.bool y65_29.area, .int .i64 y65_29.cols, v65_30_1] ∧ RdZ (ZB Z w.heap.size w') v65_30_1 3 vL y65_29.l)) (fun w w' v X h => by obtain ⟨v65_30_1, hv, hr0⟩ := h; exact ⟨_, hv, hr0.sub (ZB.grow X)⟩) (fun w X => ?_) ?_
     ·
      skip
      exact have Hs := ZB.of H.zin X; have H := H.ext X; Does.doesR (d_call [_] rfl Tryz.call9 (funcs_Of_ok (x0 := x0) hy65_29 (ZB.inn H.zin))) (fun v w' hr => by obtain ⟨v65_30_1, hv, hr0, X'⟩ := hr; exact ⟨⟨_, hv, hr0.sub (ZB.back2 X X')⟩, X'⟩)
     refine f1 [4] rfl rfl rfl rfl (fun w X => have H := H.ext X; v_loadA [_, _, _] rfl Tryz.isAgg25 Tryz.sizeOf25 (H.hp.get 1 rfl) rfl rfl) ?_
     obtain ⟨y67_31, hy67_31, hS⟩ := bo hS
     refine f_op [66] rfl rfl rfl rfl false (.rel (fun w' v' => ∃ v67_32_1, v' = .agg #[.bool y67_31.area, .int .i64 y67_31.cols, v67_32_1] ∧ RdZ (ZB Z w.heap.size w') v67_32_1 3 vL y67_31.l)) (fun w w' v X h => by obtain ⟨v67_32_1, hv, hr0⟩ := h; exact ⟨_, hv, hr0.sub (ZB.grow X)⟩) (fun w X => ?_) ?_
     ·
      skip
      exact have Hs := ZB.of H.zin X; have H := H.ext X; Does.doesR (d_call [_] rfl Tryz.call9 (funcs_Of_ok (x0 := x1) hy67_31 (ZB.inn H.zin))) (fun v w' hr => by obtain ⟨v67_32_1, hv, hr0, X'⟩ := hr; exact ⟨⟨_, hv, hr0.sub (ZB.back2 X X')⟩, X'⟩)
     refine f1 [5] rfl rfl rfl rfl (fun w X => have H := H.ext X; v_loadA [_, _, _] rfl Tryz.isAgg25 Tryz.sizeOf25 (H.hp.get 2 rfl) rfl rfl) ?_
     obtain ⟨y69_33, hy69_33, hS⟩ := bo hS
     refine f_op [68] rfl rfl rfl rfl false (.rel (fun w' v' => ∃ v69_34_1, v' = .agg #[.bool y69_33.area, .int .i64 y69_33.cols, v69_34_1] ∧ RdZ (ZB Z w.heap.size w') v69_34_1 3 vL y69_33.l)) (fun w w' v X h => by obtain ⟨v69_34_1, hv, hr0⟩ := h; exact ⟨_, hv, hr0.sub (ZB.grow X)⟩) (fun w X => ?_) ?_
     ·
      skip
      exact have Hs := ZB.of H.zin X; have H := H.ext X; Does.doesR (d_call [_] rfl Tryz.call9 (funcs_Of_ok (x0 := x2) hy69_33 (ZB.inn H.zin))) (fun v w' hr => by obtain ⟨v69_34_1, hv, hr0, X'⟩ := hr; exact ⟨⟨_, hv, hr0.sub (ZB.back2 X X')⟩, X'⟩)
     refine f_op [65, 67, 69] rfl rfl rfl rfl false (.rel (fun w' v' => RdN (ZB Z w.heap.size w') v' argEnc ([y65_29, y67_31, y69_33] : List (Arg)))) rn_stab (fun w X => ?_) ?_
     ·
      intro v65 h65 v67 h67 v69 h69
      obtain ⟨v65_30_1, rfl, r65_30_1⟩ := h65
      obtain ⟨v67_32_1, rfl, r67_32_1⟩ := h67
      obtain ⟨v69_34_1, rfl, r69_34_1⟩ := h69
      exact d_sliceRN (E := argEnc) (data := [y65_29, y67_31, y69_33]) ([⟨[.bool y65_29.area, .int .i64 y65_29.cols, v65_30_1], rfl⟩, ⟨[.bool y67_31.area, .int .i64 y67_31.cols, v67_32_1], rfl⟩, ⟨[.bool y69_33.area, .int .i64 y69_33.cols, v69_34_1], rfl⟩] : List (Cl 3)) H.zin X Tryz.underlying27 Tryz.sizeOf29 Tryz.zeroValue29 rfl (zl := [.bool false, .int .i64 0, .slice none 0 0, .bool false, .int .i64 0, .slice none 0 0, .bool false, .int .i64 0, .slice none 0 0]) (by kernel_rfl) (plA_get 3 3) [_, _, _] [_, _, _, _, _, _, _, _, _] rfl rfl rfl rfl ⟨⟨_, rfl, r65_30_1⟩, ⟨_, rfl, r67_32_1⟩, ⟨_, rfl, r69_34_1⟩, trivial⟩
     obtain ⟨y71_35, hy71_35, hS⟩ := bo hS
     refine f_op [63, 70] rfl rfl rfl rfl false (.eq (.agg #[.int .i64 y71_35.k, .int .i64 y71_35.n, S y71_35.s])) trivial (fun w X => ?_) ?_
     ·
      intro v70 h70
      exact have Hs := ZB.of H.zin X; have H := H.ext X; Does.doesF (d_call [_, _] rfl Tryz.call10 (funcs_Apply_ok (x0 := y63_28) (x1 := [y65_29, y67_31, y69_33]) hy71_35 (h70.hz (ZB.inn H.zin)) (hG.ext H.out)))
     refine f1 [7] rfl rfl rfl rfl (fun w X => v_move rfl) ?_
     refine f1 [8] rfl rfl rfl rfl (fun w X => v_move rfl) ?_
     refine f1 [9] rfl rfl rfl rfl (fun w X => v_move rfl) ?_
     refine f_op [72, 73, 74] rfl rfl rfl rfl false (.rel (fun w' v' => RdZ (ZB Z w.heap.size w') v' 1 eS ([y30_18, y32_19, y34_20] : List (List UInt8)))) rd_stab (fun w X => ?_) ?_
     ·
      skip
      exact d_sliceR (enc := eS) ([y30_18, y32_19, y34_20] : List (List UInt8)) H.zin X Tryz.underlying36 Tryz.sizeOf9 Tryz.zeroValue9 rfl (zl := [S [], S [], S []]) (by kernel_rfl) (plA_get 3 1) [_, _, _] [_, _, _] rfl rfl rfl rfl
     obtain ⟨y76_36, hy76_36, hS⟩ := bo hS
     refine f_op [75] rfl rfl rfl rfl false (.eq (.agg #[.int .i64 y76_36.k, .int .i64 y76_36.n, S y76_36.s])) trivial (fun w X => ?_) ?_
     ·
      intro v75 h75
      exact have Hs := ZB.of H.zin X; have H := H.ext X; Does.doesF (d_call [_, _] rfl Tryz.call21 (texts_More_ok (x0 := ([67, 79, 78, 67, 65, 84] : List UInt8)) (x1 := [y30_18, y32_19, y34_20]) hy76_36 (h75.hz (ZB.inn H.zin)) (hG.ext H.out)))
     obtain ⟨z77_37, ez77_37, hS⟩ := bv hS
     refine f1 [71, 76] rfl rfl rfl rfl (fun w X => vB ez77_37 (v_aggeq rfl rfl age25 (agq25 _ _ _ _ _ _))) ?_
     refine f1 [77] rfl rfl rfl rfl (fun w X => v_move rfl) ?_
     obtain ⟨y79_38, hy79_38, hS⟩ := bo hS
     refine f_gd (V := .int .i64 y79_38) [78] rfl rfl rfl (gT rfl) rfl rfl (fun e0 w X => have H := H.ext X; d_call [_] rfl Tryz.call16 (tree_Number_ok (x0 := ([70, 73, 78, 68] : List UInt8)) (ifT e0 hy79_38) (hG.ext H.out))) ?_
     refine f_g [3, 78] rfl rfl rfl (gT rfl) rfl rfl (fun e0 w X => have H := H.ext X; v_loadA [_, _, _] rfl Tryz.isAgg25 Tryz.sizeOf25 (H.hp.get 0 rfl) rfl rfl) ?_
     obtain ⟨y81_39, hy81_39, hS⟩ := bo hS
     refine f_gR (R := (fun w' v' => ∃ v81_40_1, v' = .agg #[.bool y81_39.area, .int .i64 y81_39.cols, v81_40_1] ∧ RdZ (ZB Z w.heap.size w') v81_40_1 3 vL y81_39.l)) (c := z77_37) [80, 78] rfl rfl rfl rfl rfl (fun w w' v X h => by obtain ⟨v81_40_1, hv, hr0⟩ := h; exact ⟨_, hv, hr0.sub (ZB.grow X)⟩) (fun w X => ?_) ?_
     ·
      skip
      exact ⟨(gT rfl), fun e0 => have Hs := ZB.of H.zin X; have H := H.ext X; Does.doesR (d_call [_] (evs_c (eg e0 rfl) evs_n) Tryz.call9 (funcs_Of_ok (x0 := x0) (ifT e0 hy81_39) (ZB.inn H.zin))) (fun v w' hr => by obtain ⟨v81_40_1, hv, hr0, X'⟩ := hr; exact ⟨⟨_, hv, hr0.sub (ZB.back2 X X')⟩, X'⟩)⟩
     refine f_g [4, 78] rfl rfl rfl (gT rfl) rfl rfl (fun e0 w X => have H := H.ext X; v_loadA [_, _, _] rfl Tryz.isAgg25 Tryz.sizeOf25 (H.hp.get 1 rfl) rfl rfl) ?_
     obtain ⟨y83_41, hy83_41, hS⟩ := bo hS
     refine f_gR (R := (fun w' v' => ∃ v83_42_1, v' = .agg #[.bool y83_41.area, .int .i64 y83_41.cols, v83_42_1] ∧ RdZ (ZB Z w.heap.size w') v83_42_1 3 vL y83_41.l)) (c := z77_37) [82, 78] rfl rfl rfl rfl rfl (fun w w' v X h => by obtain ⟨v83_42_1, hv, hr0⟩ := h; exact ⟨_, hv, hr0.sub (ZB.grow X)⟩) (fun w X => ?_) ?_
     ·
      skip
      exact ⟨(gT rfl), fun e0 => have Hs := ZB.of H.zin X; have H := H.ext X; Does.doesR (d_call [_] (evs_c (eg e0 rfl) evs_n) Tryz.call9 (funcs_Of_ok (x0 := x1) (ifT e0 hy83_41) (ZB.inn H.zin))) (fun v w' hr => by obtain ⟨v83_42_1, hv, hr0, X'⟩ := hr; exact ⟨⟨_, hv, hr0.sub (ZB.back2 X X')⟩, X'⟩)⟩
     refine f_gR (R := (fun w' v' => RdN (ZB Z w.heap.size w') v' argEnc ([y81_39, y83_41] : List (Arg)))) (c := z77_37) [81, 83, 78] rfl rfl rfl rfl rfl rn_stab (fun w X => ?_) ?_
     ·
      intro v81 h81 v83 h83
      refine ⟨(gT rfl), fun e0 => ?_⟩
      obtain ⟨v81_40_1, rfl, r81_40_1⟩ := h81 e0
      obtain ⟨v83_42_1, rfl, r83_42_1⟩ := h83 e0
      exact d_sliceRN (E := argEnc) (data := [y81_39, y83_41]) ([⟨[.bool y81_39.area, .int .i64 y81_39.cols, v81_40_1], rfl⟩, ⟨[.bool y83_41.area, .int .i64 y83_41.cols, v83_42_1], rfl⟩] : List (Cl 3)) H.zin X Tryz.underlying27 Tryz.sizeOf29 Tryz.zeroValue29 rfl (zl := [.bool false, .int .i64 0, .slice none 0 0, .bool false, .int .i64 0, .slice none 0 0]) (by kernel_rfl) (plA_get 2 3) [_, _] [_, _, _, _, _, _] (evs_c rfl (evs_c rfl evs_n)) rfl rfl rfl ⟨⟨_, rfl, r81_40_1⟩, ⟨_, rfl, r83_42_1⟩, trivial⟩
     obtain ⟨y85_43, hy85_43, hS⟩ := bo hS
     refine f_gE (V := .agg #[.int .i64 y85_43.k, .int .i64 y85_43.n, S y85_43.s]) (c := z77_37) [79, 84, 78] rfl rfl rfl rfl rfl (fun w X => ?_) ?_
     ·
      intro v84 h84
      exact ⟨(gT rfl), fun e0 => have Hs := ZB.of H.zin X; have H := H.ext X; Does.doesF (d_call [_, _] (evs_c (eg e0 rfl) (evs_c rfl evs_n)) Tryz.call10 (funcs_Apply_ok (x0 := y79_38) (x1 := [y81_39, y83_41]) (ifT e0 hy85_43) ((h84 e0).hz (ZB.inn H.zin)) (hG.ext H.out)))⟩
     refine f_g [7, 78] rfl rfl rfl (gT rfl) rfl rfl (fun e0 w X => v_move rfl) ?_
     refine f_g [8, 78] rfl rfl rfl (gT rfl) rfl rfl (fun e0 w X => v_move rfl) ?_
     refine f_gR (R := (fun w' v' => RdZ (ZB Z w.heap.size w') v' 1 eS ([y30_18, y32_19] : List (List UInt8)))) (c := z77_37) [86, 87, 78] rfl rfl rfl rfl rfl rd_stab (fun w X => ?_) ?_
     ·
      skip
      exact ⟨(gT rfl), fun e0 => d_sliceR (enc := eS) ([y30_18, y32_19] : List (List UInt8)) H.zin X Tryz.underlying36 Tryz.sizeOf9 Tryz.zeroValue9 rfl (zl := [S [], S []]) (by kernel_rfl) (plA_get 2 1) [_, _] [_, _] (evs_c (eg e0 rfl) (evs_c (eg e0 rfl) evs_n)) rfl rfl rfl⟩
     obtain ⟨y89_44, hy89_44, hS⟩ := bo hS
     refine f_gE (V := .agg #[.int .i64 y89_44.k, .int .i64 y89_44.n, S y89_44.s]) (c := z77_37) [88, 78] rfl rfl rfl rfl rfl (fun w X => ?_) ?_
     ·
      intro v88 h88
      exact ⟨(gT rfl), fun e0 => have Hs := ZB.of H.zin X; have H := H.ext X; Does.doesF (d_call [_, _] rfl Tryz.call21 (texts_More_ok (x0 := ([70, 73, 78, 68] : List UInt8)) (x1 := [y30_18, y32_19]) (ifT e0 hy89_44) ((h88 e0).hz (ZB.inn H.zin)) (hG.ext H.out)))⟩
     obtain ⟨z90_45, ez90_45, hS⟩ := bv hS
     refine f_g [85, 89, 78] rfl rfl rfl (gT rfl) rfl rfl (fun e0 w X => vB ez90_45 (v_aggeq (eg e0 rfl) (eg e0 rfl) age25 (agq25 _ _ _ _ _ _))) ?_
     obtain ⟨z91_46, ez91_46, hS⟩ := bv hS
     refine f1 [78, 90] rfl rfl rfl rfl (fun w X => vB ez91_46 (v_and rfl rfl)) ?_
     refine f1 [91] rfl rfl rfl rfl (fun w X => v_move rfl) ?_
     obtain ⟨y93_47, hy93_47, hS⟩ := bo hS
     refine f_gd (V := .int .i64 y93_47) [92] rfl rfl rfl (gT rfl) rfl rfl (fun e0 w X => have H := H.ext X; d_call [_] rfl Tryz.call16 (tree_Number_ok (x0 := ([83, 85, 66, 83, 84, 73, 84, 85, 84, 69] : List UInt8)) (ifT e0 hy93_47) (hG.ext H.out))) ?_
     refine f_g [3, 92] rfl rfl rfl (gT rfl) rfl rfl (fun e0 w X => have H := H.ext X; v_loadA [_, _, _] rfl Tryz.isAgg25 Tryz.sizeOf25 (H.hp.get 0 rfl) rfl rfl) ?_
     obtain ⟨y95_48, hy95_48, hS⟩ := bo hS
     refine f_gR (R := (fun w' v' => ∃ v95_49_1, v' = .agg #[.bool y95_48.area, .int .i64 y95_48.cols, v95_49_1] ∧ RdZ (ZB Z w.heap.size w') v95_49_1 3 vL y95_48.l)) (c := z91_46) [94, 92] rfl rfl rfl rfl rfl (fun w w' v X h => by obtain ⟨v95_49_1, hv, hr0⟩ := h; exact ⟨_, hv, hr0.sub (ZB.grow X)⟩) (fun w X => ?_) ?_
     ·
      skip
      exact ⟨(gT rfl), fun e0 => have Hs := ZB.of H.zin X; have H := H.ext X; Does.doesR (d_call [_] (evs_c (eg e0 rfl) evs_n) Tryz.call9 (funcs_Of_ok (x0 := x0) (ifT e0 hy95_48) (ZB.inn H.zin))) (fun v w' hr => by obtain ⟨v95_49_1, hv, hr0, X'⟩ := hr; exact ⟨⟨_, hv, hr0.sub (ZB.back2 X X')⟩, X'⟩)⟩
     refine f_g [4, 92] rfl rfl rfl (gT rfl) rfl rfl (fun e0 w X => have H := H.ext X; v_loadA [_, _, _] rfl Tryz.isAgg25 Tryz.sizeOf25 (H.hp.get 1 rfl) rfl rfl) ?_
     obtain ⟨y97_50, hy97_50, hS⟩ := bo hS
     refine f_gR (R := (fun w' v' => ∃ v97_51_1, v' = .agg #[.bool y97_50.area, .int .i64 y97_50.cols, v97_51_1] ∧ RdZ (ZB Z w.heap.size w') v97_51_1 3 vL y97_50.l)) (c := z91_46) [96, 92] rfl rfl rfl rfl rfl (fun w w' v X h => by obtain ⟨v97_51_1, hv, hr0⟩ := h; exact ⟨_, hv, hr0.sub (ZB.grow X)⟩) (fun w X => ?_) ?_
     ·
      skip
      exact ⟨(gT rfl), fun e0 => have Hs := ZB.of H.zin X; have H := H.ext X; Does.doesR (d_call [_] (evs_c (eg e0 rfl) evs_n) Tryz.call9 (funcs_Of_ok (x0 := x1) (ifT e0 hy97_50) (ZB.inn H.zin))) (fun v w' hr => by obtain ⟨v97_51_1, hv, hr0, X'⟩ := hr; exact ⟨⟨_, hv, hr0.sub (ZB.back2 X X')⟩, X'⟩)⟩
     refine f_g [5, 92] rfl rfl rfl (gT rfl) rfl rfl (fun e0 w X => have H := H.ext X; v_loadA [_, _, _] rfl Tryz.isAgg25 Tryz.sizeOf25 (H.hp.get 2 rfl) rfl rfl) ?_
     obtain ⟨y99_52, hy99_52, hS⟩ := bo hS
     refine f_gR (R := (fun w' v' => ∃ v99_53_1, v' = .agg #[.bool y99_52.area, .int .i64 y99_52.cols, v99_53_1] ∧ RdZ (ZB Z w.heap.size w') v99_53_1 3 vL y99_52.l)) (c := z91_46) [98, 92] rfl rfl rfl rfl rfl (fun w w' v X h => by obtain ⟨v99_53_1, hv, hr0⟩ := h; exact ⟨_, hv, hr0.sub (ZB.grow X)⟩) (fun w X => ?_) ?_
     ·
      skip
      exact ⟨(gT rfl), fun e0 => have Hs := ZB.of H.zin X; have H := H.ext X; Does.doesR (d_call [_] (evs_c (eg e0 rfl) evs_n) Tryz.call9 (funcs_Of_ok (x0 := x2) (ifT e0 hy99_52) (ZB.inn H.zin))) (fun v w' hr => by obtain ⟨v99_53_1, hv, hr0, X'⟩ := hr; exact ⟨⟨_, hv, hr0.sub (ZB.back2 X X')⟩, X'⟩)⟩
     refine f_gR (R := (fun w' v' => RdN (ZB Z w.heap.size w') v' argEnc ([y95_48, y97_50, y99_52] : List (Arg)))) (c := z91_46) [95, 97, 99, 92] rfl rfl rfl rfl rfl rn_stab (fun w X => ?_) ?_
     ·
      intro v95 h95 v97 h97 v99 h99
      refine ⟨(gT rfl), fun e0 => ?_⟩
      obtain ⟨v95_49_1, rfl, r95_49_1⟩ := h95 e0
      obtain ⟨v97_51_1, rfl, r97_51_1⟩ := h97 e0
      obtain ⟨v99_53_1, rfl, r99_53_1⟩ := h99 e0
      exact d_sliceRN (E := argEnc) (data := [y95_48, y97_50, y99_52]) ([⟨[.bool y95_48.area, .int .i64 y95_48.cols, v95_49_1], rfl⟩, ⟨[.bool y97_50.area, .int .i64 y97_50.cols, v97_51_1], rfl⟩, ⟨[.bool y99_52.area, .int .i64 y99_52.cols, v99_53_1], rfl⟩] : List (Cl 3)) H.zin X Tryz.underlying27 Tryz.sizeOf29 Tryz.zeroValue29 rfl (zl := [.bool false, .int .i64 0, .slice none 0 0, .bool false, .int .i64 0, .slice none 0 0, .bool false, .int .i64 0, .slice none 0 0]) (by kernel_rfl) (plA_get 3 3) [_, _, _] [_, _, _, _, _, _, _, _, _] (evs_c rfl (evs_c rfl (evs_c rfl evs_n))) rfl rfl rfl ⟨⟨_, rfl, r95_49_1⟩, ⟨_, rfl, r97_51_1⟩, ⟨_, rfl, r99_53_1⟩, trivial⟩
     obtain ⟨y101_54, hy101_54, hS⟩ := bo hS
     refine f_gE (V := .agg #[.int .i64 y101_54.k, .int .i64 y101_54.n, S y101_54.s]) (c := z91_46) [93, 100, 92] rfl rfl rfl rfl rfl (fun w X => ?_) ?_
     ·
      intro v100 h100
      exact ⟨(gT rfl), fun e0 => have Hs := ZB.of H.zin X; have H := H.ext X; Does.doesF (d_call [_, _] (evs_c (eg e0 rfl) (evs_c rfl evs_n)) Tryz.call10 (funcs_Apply_ok (x0 := y93_47) (x1 := [y95_48, y97_50, y99_52]) (ifT e0 hy101_54) ((h100 e0).hz (ZB.inn H.zin)) (hG.ext H.out)))⟩
     refine f_g [7, 92] rfl rfl rfl (gT rfl) rfl rfl (fun e0 w X => v_move rfl) ?_
     refine f_g [8, 92] rfl rfl rfl (gT rfl) rfl rfl (fun e0 w X => v_move rfl) ?_
     refine f_g [9, 92] rfl rfl rfl (gT rfl) rfl rfl (fun e0 w X => v_move rfl) ?_
     refine f_gR (R := (fun w' v' => RdZ (ZB Z w.heap.size w') v' 1 eS ([y30_18, y32_19, y34_20] : List (List UInt8)))) (c := z91_46) [102, 103, 104, 92] rfl rfl rfl rfl rfl rd_stab (fun w X => ?_) ?_
     ·
      skip
      exact ⟨(gT rfl), fun e0 => d_sliceR (enc := eS) ([y30_18, y32_19, y34_20] : List (List UInt8)) H.zin X Tryz.underlying36 Tryz.sizeOf9 Tryz.zeroValue9 rfl (zl := [S [], S [], S []]) (by kernel_rfl) (plA_get 3 1) [_, _, _] [_, _, _] (evs_c (eg e0 rfl) (evs_c (eg e0 rfl) (evs_c (eg e0 rfl) evs_n))) rfl rfl rfl⟩
     obtain ⟨y106_55, hy106_55, hS⟩ := bo hS
     refine f_gE (V := .agg #[.int .i64 y106_55.k, .int .i64 y106_55.n, S y106_55.s]) (c := z91_46) [105, 92] rfl rfl rfl rfl rfl (fun w X => ?_) ?_
     ·
      intro v105 h105
      exact ⟨(gT rfl), fun e0 => have Hs := ZB.of H.zin X; have H := H.ext X; Does.doesF (d_call [_, _] rfl Tryz.call21 (texts_More_ok (x0 := ([83, 85, 66, 83, 84, 73, 84, 85, 84, 69] : List UInt8)) (x1 := [y30_18, y32_19, y34_20]) (ifT e0 hy106_55) ((h105 e0).hz (ZB.inn H.zin)) (hG.ext H.out)))⟩
     obtain ⟨z107_56, ez107_56, hS⟩ := bv hS
     refine f_g [101, 106, 92] rfl rfl rfl (gT rfl) rfl rfl (fun e0 w X => vB ez107_56 (v_aggeq (eg e0 rfl) (eg e0 rfl) age25 (agq25 _ _ _ _ _ _))) ?_
     obtain ⟨z108_57, ez108_57, hS⟩ := bv hS
     refine f1 [92, 107] rfl rfl rfl rfl (fun w X => vB ez108_57 (v_and rfl rfl)) ?_
     refine f1 [108] rfl rfl rfl rfl (fun w X => v_move rfl) ?_
     obtain ⟨y110_58, hy110_58, hS⟩ := bo hS
     refine f_gd (V := .int .i64 y110_58) [109] rfl rfl rfl (gT rfl) rfl rfl (fun e0 w X => have H := H.ext X; d_call [_] rfl Tryz.call16 (tree_Number_ok (x0 := ([76, 69, 70, 84] : List UInt8)) (ifT e0 hy110_58) (hG.ext H.out))) ?_
     refine f_g [3, 109] rfl rfl rfl (gT rfl) rfl rfl (fun e0 w X => have H := H.ext X; v_loadA [_, _, _] rfl Tryz.isAgg25 Tryz.sizeOf25 (H.hp.get 0 rfl) rfl rfl) ?_
     obtain ⟨y112_59, hy112_59, hS⟩ := bo hS
     refine f_gR (R := (fun w' v' => ∃ v112_60_1, v' = .agg #[.bool y112_59.area, .int .i64 y112_59.cols, v112_60_1] ∧ RdZ (ZB Z w.heap.size w') v112_60_1 3 vL y112_59.l)) (c := z108_57) [111, 109] rfl rfl rfl rfl rfl (fun w w' v X h => by obtain ⟨v112_60_1, hv, hr0⟩ := h; exact ⟨_, hv, hr0.sub (ZB.grow X)⟩) (fun w X => ?_) ?_
     ·
      skip
      exact ⟨(gT rfl), fun e0 => have Hs := ZB.of H.zin X; have H := H.ext X; Does.doesR (d_call [_] (evs_c (eg e0 rfl) evs_n) Tryz.call9 (funcs_Of_ok (x0 := x0) (ifT e0 hy112_59) (ZB.inn H.zin))) (fun v w' hr => by obtain ⟨v112_60_1, hv, hr0, X'⟩ := hr; exact ⟨⟨_, hv, hr0.sub (ZB.back2 X X')⟩, X'⟩)⟩
     refine f_g [4, 109] rfl rfl rfl (gT rfl) rfl rfl (fun e0 w X => have H := H.ext X; v_loadA [_, _, _] rfl Tryz.isAgg25 Tryz.sizeOf25 (H.hp.get 1 rfl) rfl rfl) ?_
     obtain ⟨y114_61, hy114_61, hS⟩ := bo hS
     refine f_gR (R := (fun w' v' => ∃ v114_62_1, v' = .agg #[.bool y114_61.area, .int .i64 y114_61.cols, v114_62_1] ∧ RdZ (ZB Z w.heap.size w') v114_62_1 3 vL y114_61.l)) (c := z108_57) [113, 109] rfl rfl rfl rfl rfl (fun w w' v X h => by obtain ⟨v114_62_1, hv, hr0⟩ := h; exact ⟨_, hv, hr0.sub (ZB.grow X)⟩) (fun w X => ?_) ?_
     ·
      skip
      exact ⟨(gT rfl), fun e0 => have Hs := ZB.of H.zin X; have H := H.ext X; Does.doesR (d_call [_] (evs_c (eg e0 rfl) evs_n) Tryz.call9 (funcs_Of_ok (x0 := x1) (ifT e0 hy114_61) (ZB.inn H.zin))) (fun v w' hr => by obtain ⟨v114_62_1, hv, hr0, X'⟩ := hr; exact ⟨⟨_, hv, hr0.sub (ZB.back2 X X')⟩, X'⟩)⟩
     refine f_gR (R := (fun w' v' => RdN (ZB Z w.heap.size w') v' argEnc ([y112_59, y114_61] : List (Arg)))) (c := z108_57) [112, 114, 109] rfl rfl rfl rfl rfl rn_stab (fun w X => ?_) ?_
     ·
      intro v112 h112 v114 h114
      refine ⟨(gT rfl), fun e0 => ?_⟩
      obtain ⟨v112_60_1, rfl, r112_60_1⟩ := h112 e0
      obtain ⟨v114_62_1, rfl, r114_62_1⟩ := h114 e0
      exact d_sliceRN (E := argEnc) (data := [y112_59, y114_61]) ([⟨[.bool y112_59.area, .int .i64 y112_59.cols, v112_60_1], rfl⟩, ⟨[.bool y114_61.area, .int .i64 y114_61.cols, v114_62_1], rfl⟩] : List (Cl 3)) H.zin X Tryz.underlying27 Tryz.sizeOf29 Tryz.zeroValue29 rfl (zl := [.bool false, .int .i64 0, .slice none 0 0, .bool false, .int .i64 0, .slice none 0 0]) (by kernel_rfl) (plA_get 2 3) [_, _] [_, _, _, _, _, _] (evs_c rfl (evs_c rfl evs_n)) rfl rfl rfl ⟨⟨_, rfl, r112_60_1⟩, ⟨_, rfl, r114_62_1⟩, trivial⟩
     obtain ⟨y116_63, hy116_63, hS⟩ := bo hS
     refine f_gE (V := .agg #[.int .i64 y116_63.k, .int .i64 y116_63.n, S y116_63.s]) (c := z108_57) [110, 115, 109] rfl rfl rfl rfl rfl (fun w X => ?_) ?_
     ·
      intro v115 h115
      exact ⟨(gT rfl), fun e0 => have Hs := ZB.of H.zin X; have H := H.ext X; Does.doesF (d_call [_, _] (evs_c (eg e0 rfl) (evs_c rfl evs_n)) Tryz.call10 (funcs_Apply_ok (x0 := y110_58) (x1 := [y112_59, y114_61]) (ifT e0 hy116_63) ((h115 e0).hz (ZB.inn H.zin)) (hG.ext H.out)))⟩
     refine f_g [13, 109] rfl rfl rfl (gT rfl) rfl rfl (fun e0 w X => have H := H.ext X; v_loadA [_, _, _] rfl Tryz.isAgg25 Tryz.sizeOf25 (H.hp.get 4 rfl) rfl rfl) ?_
     obtain ⟨z118_64, ez118_64, hS⟩ := bv hS
     refine f_g [116, 117, 109] rfl rfl rfl (gT rfl) rfl rfl (fun e0 w X => vB ez118_64 (v_aggeq (eg e0 rfl) (eg e0 rfl) age25 (agq25 _ _ _ _ _ _))) ?_
     obtain ⟨z119_65, ez119_65, hS⟩ := bv hS
     refine f1 [109, 118] rfl rfl rfl rfl (fun w X => vB ez119_65 (v_and rfl rfl)) ?_
     refine f1 [119] rfl rfl rfl rfl (fun w X => v_move rfl) ?_
     obtain ⟨y121_66, hy121_66, hS⟩ := bo hS
     refine f_gd (V := .int .i64 y121_66) [120] rfl rfl rfl (gT rfl) rfl rfl (fun e0 w X => have H := H.ext X; d_call [_] rfl Tryz.call16 (tree_Number_ok (x0 := ([67, 79, 78, 67, 65, 84] : List UInt8)) (ifT e0 hy121_66) (hG.ext H.out))) ?_
     refine f_g [3, 120] rfl rfl rfl (gT rfl) rfl rfl (fun e0 w X => have H := H.ext X; v_loadA [_, _, _] rfl Tryz.isAgg25 Tryz.sizeOf25 (H.hp.get 0 rfl) rfl rfl) ?_
     obtain ⟨y123_67, hy123_67, hS⟩ := bo hS
     refine f_gR (R := (fun w' v' => ∃ v123_68_1, v' = .agg #[.bool y123_67.area, .int .i64 y123_67.cols, v123_68_1] ∧ RdZ (ZB Z w.heap.size w') v123_68_1 3 vL y123_67.l)) (c := z119_65) [122, 120] rfl rfl rfl rfl rfl (fun w w' v X h => by obtain ⟨v123_68_1, hv, hr0⟩ := h; exact ⟨_, hv, hr0.sub (ZB.grow X)⟩) (fun w X => ?_) ?_
     ·
      skip
      exact ⟨(gT rfl), fun e0 => have Hs := ZB.of H.zin X; have H := H.ext X; Does.doesR (d_call [_] (evs_c (eg e0 rfl) evs_n) Tryz.call9 (funcs_Of_ok (x0 := x0) (ifT e0 hy123_67) (ZB.inn H.zin))) (fun v w' hr => by obtain ⟨v123_68_1, hv, hr0, X'⟩ := hr; exact ⟨⟨_, hv, hr0.sub (ZB.back2 X X')⟩, X'⟩)⟩
     refine f_gR (R := (fun w' v' => RdN (ZB Z w.heap.size w') v' argEnc ([y123_67] : List (Arg)))) (c := z119_65) [123, 120] rfl rfl rfl rfl rfl rn_stab (fun w X => ?_) ?_
     ·
      intro v123 h123
      refine ⟨(gT rfl), fun e0 => ?_⟩
      obtain ⟨v123_68_1, rfl, r123_68_1⟩ := h123 e0
      exact d_sliceRN (E := argEnc) (data := [y123_67]) ([⟨[.bool y123_67.area, .int .i64 y123_67.cols, v123_68_1], rfl⟩] : List (Cl 3)) H.zin X Tryz.underlying27 Tryz.sizeOf29 Tryz.zeroValue29 rfl (zl := [.bool false, .int .i64 0, .slice none 0 0]) (by kernel_rfl) (plA_get 1 3) [_] [_, _, _] (evs_c rfl evs_n) rfl rfl rfl ⟨⟨_, rfl, r123_68_1⟩, trivial⟩
     obtain ⟨y125_69, hy125_69, hS⟩ := bo hS
     refine f_gE (V := .agg #[.int .i64 y125_69.k, .int .i64 y125_69.n, S y125_69.s]) (c := z119_65) [121, 124, 120] rfl rfl rfl rfl rfl (fun w X => ?_) ?_
     ·
      intro v124 h124
      exact ⟨(gT rfl), fun e0 => have Hs := ZB.of H.zin X; have H := H.ext X; Does.doesF (d_call [_, _] (evs_c (eg e0 rfl) (evs_c rfl evs_n)) Tryz.call10 (funcs_Apply_ok (x0 := y121_66) (x1 := [y123_67]) (ifT e0 hy125_69) ((h124 e0).hz (ZB.inn H.zin)) (hG.ext H.out)))⟩
     refine f_g [7, 120] rfl rfl rfl (gT rfl) rfl rfl (fun e0 w X => v_move rfl) ?_
     refine f_gR (R := (fun w' v' => RdZ (ZB Z w.heap.size w') v' 1 eS ([y30_18] : List (List UInt8)))) (c := z119_65) [126, 120] rfl rfl rfl rfl rfl rd_stab (fun w X => ?_) ?_
     ·
      skip
      exact ⟨(gT rfl), fun e0 => d_sliceR (enc := eS) ([y30_18] : List (List UInt8)) H.zin X Tryz.underlying36 Tryz.sizeOf9 Tryz.zeroValue9 rfl (zl := [S []]) (by kernel_rfl) (plA_get 1 1) [_] [_] (evs_c (eg e0 rfl) evs_n) rfl rfl rfl⟩
     obtain ⟨y128_70, hy128_70, hS⟩ := bo hS
     refine f_gE (V := .agg #[.int .i64 y128_70.k, .int .i64 y128_70.n, S y128_70.s]) (c := z119_65) [127, 120] rfl rfl rfl rfl rfl (fun w X => ?_) ?_
     ·
      intro v127 h127
      exact ⟨(gT rfl), fun e0 => have Hs := ZB.of H.zin X; have H := H.ext X; Does.doesF (d_call [_, _] rfl Tryz.call21 (texts_More_ok (x0 := ([67, 79, 78, 67, 65, 84] : List UInt8)) (x1 := [y30_18]) (ifT e0 hy128_70) ((h127 e0).hz (ZB.inn H.zin)) (hG.ext H.out)))⟩
     obtain ⟨z129_71, ez129_71, hS⟩ := bv hS
     refine f_g [125, 128, 120] rfl rfl rfl (gT rfl) rfl rfl (fun e0 w X => vB ez129_71 (v_aggeq (eg e0 rfl) (eg e0 rfl) age25 (agq25 _ _ _ _ _ _))) ?_
     obtain ⟨z130_72, ez130_72, hS⟩ := bv hS
     refine f1 [120, 129] rfl rfl rfl rfl (fun w X => vB ez130_72 (v_and rfl rfl)) ?_
     refine f1 [130] rfl rfl rfl rfl (fun w X => v_assign rfl) ?_
     refine fn_ ?_
     intro a w X hR hA
     have h := hR.out [6]
     have h : Fr 131 [(6, _)] a := h
     have H := H.ext X
     obtain rfl := so hS
     refine c_ret (hret0 _ _ (out1 h rfl rfl ?_))
     exact ⟨rfl, H.out⟩
    ·
     have hret26 := hO26.ret hret0
     refine c_region fun K hK => ?_
     refine st1 h rfl rfl rfl (v_fieldAddr rfl Tryz.underlying25 rfl Tryz.sizeOf3 rfl rfl) fun a h => ?_
     refine st1 h rfl rfl rfl (v_load1 rfl Tryz.isAgg3 (H.hp.get 3 rfl) rfl) fun a h => ?_
     obtain ⟨z57_73, ez57_73, hS⟩ := bv hS
     refine st1 h rfl rfl rfl (vB ez57_73 (v_ne rfl rfl)) fun a h => ?_
     refine c_nil hK ?_
     have h := h.only [3, 4, 5, 7, 8, 9, 12, 13, 57] (l' := [_, _, _, _, _, _, _, _, _]) rfl
     refine c_cond h rfl (fun ec74 => ?_) (fun ec74 => ?_)
     ·
      have hS := ifT ec74 hS
      refine c_lregion ?_
      refine st1 h rfl rfl rfl (v_move rfl) fun a h => ?_
      refine st1 h rfl rfl rfl (v_fieldAddr rfl Tryz.underlying25 rfl Tryz.sizeOf2 rfl rfl) fun a h => ?_
      refine st1 h rfl rfl rfl (v_load1 rfl Tryz.isAgg2 (H.hp.get 3 rfl) rfl) fun a h => ?_
      refine z_slice (enc := (eI .i64)) ([y53_23.n] : List (Int)) h H Tryz.underlying52 Tryz.sizeOf2 Tryz.zeroValue2 rfl (zl := [.int .i64 0]) (by kernel_rfl) (plA_get 1 1) [_] [_] rfl rfl rfl rfl rfl fun a v61_75 Z w hsub X H r61_75 h => ?_
      obtain ⟨y62_76, hy62_76, hS⟩ := bo hS
      refine st2v (T := Ext) (V := .agg #[.int .i64 y62_76.k, .int .i64 y62_76.n, S y62_76.s]) h rfl rfl rfl (d_call [_, _, _] rfl Tryz.call20 (texts_Part_ok (x0 := ([76, 69, 70, 84] : List UInt8)) (x1 := y30_18) (x2 := [y53_23.n]) hy62_76 (r61_75.hz H.zin))) fun w X a h => ?_
      have H := H.ext X
      refine z_store h H 4 rfl rfl rfl Tryz.sizeOf25 [_, _, _] rfl rfl rfl (by simp) [_, _, _] rfl (hl' := [_, _, _, _, _]) rfl fun w H => ?_
      refine c_lnil ?_
      exact hN26 _ _ ⟨_, (y62_76.k, y62_76.n, y62_76.s), hS, (h.only [3, 4, 5, 7, 8, 9, 13] (l' := [_, _, _, _, _, _, _]) rfl), H⟩
     ·
      have hS := ifF ec74 hS
      refine c_skip ?_
      exact hN26 _ _ ⟨_, (y53_23.k, y53_23.n, y53_23.s), hS, (h.only [3, 4, 5, 7, 8, 9, 13] (l' := [_, _, _, _, _, _, _]) rfl), H⟩
   ·
    have hret21 := hO21.ret hret0
    refine c_region fun K hK => ?_
    refine z_slice (enc := eS) ([([76, 69, 78] : List UInt8), ([85, 80, 80, 69, 82] : List UInt8), ([76, 79, 87, 69, 82] : List UInt8), ([84, 82, 73, 77] : List UInt8), ([86, 65, 76, 85, 69] : List UInt8)] : List (List UInt8)) h H Tryz.underlying36 Tryz.sizeOf9 Tryz.zeroValue9 rfl (zl := [S [], S [], S [], S [], S []]) (by kernel_rfl) (plA_get 5 1) [_, _, _, _, _] [_, _, _, _, _] rfl rfl rfl rfl rfl fun a v35_77 Z w hsub X H r35_77 h => ?_
    refine st1 h rfl rfl rfl (v_len Tryz.underlying36 rfl (r35_77.at H.zin)) fun a h => ?_
    refine st1 h rfl rfl rfl (v_move rfl) fun a h => ?_
    refine c_nil hK ?_
    refine c_lblock fun Q78 hN78 hx0_78 hO78 => ?_
    have hret78 := hO78.ret hret21
    obtain ⟨B79, eB79, hS⟩ := bv hS
    refine c_loopN (fun mu_ a w => ∃ (Z : FZ) (s79 : Int), loopF B79 mu_ s79 = some res ∧ Fr 131 [(3, .pointer (some ⟨p3_1, 0, none⟩)), (4, .pointer (some ⟨p4_2, 0, none⟩)), (5, .pointer (some ⟨p5_3, 0, none⟩)), (7, S y30_18), (8, S y32_19), (9, S y34_20), (35, v35_77), (36, .int .i64 ((([([76, 69, 78] : List UInt8), ([85, 80, 80, 69, 82] : List UInt8), ([76, 79, 87, 69, 82] : List UInt8), ([84, 82, 73, 77] : List UInt8), ([86, 65, 76, 85, 69] : List UInt8)]).length : Int))), (37, .int .i64 s79)] a ∧ HZ w0 Zi Z [.blk p3_1 (Cel [.int .i64 x0.k, .int .i64 x0.n, S x0.s] 25), .blk p4_2 (Cel [.int .i64 x1.k, .int .i64 x1.n, S x1.s] 25), .blk p5_3 (Cel [.int .i64 x2.k, .int .i64 x2.n, S x2.s] 25)] w ∧ RdZ Z v35_77 1 eS ([([76, 69, 78] : List UInt8), ([85, 80, 80, 69, 82] : List UInt8), ([76, 79, 87, 69, 82] : List UInt8), ([84, 82, 73, 77] : List UInt8), ([86, 65, 76, 85, 69] : List UInt8)])) KK ⟨_, 0, hS, (h.only [3, 4, 5, 7, 8, 9, 35, 36, 37] (l' := [_, _, _, _, _, _, _, _, _]) rfl), H, r35_77⟩ ?_
    rintro mu_ a w ⟨Z, s79, hS, h, H, r35_77⟩ Q80 hN80 hO80
    obtain ⟨mu_, rfl, n79, en79, hS⟩ := lpX eB79 hS
    have hret80 := hO80.ret hret78
    have hx0_80 := hO80.exit (i := 0) rfl hx0_78
    refine c_region fun K hK => ?_
    obtain ⟨z38_81, ez38_81, hS⟩ := bv hS
    refine st1 h rfl rfl rfl (vB ez38_81 (v_lt rfl rfl)) fun a h => ?_
    refine c_nil hK ?_
    refine c_seq _ (fun a w c => c) fun Q82 hN82 hO82 => ?_
    have hret82 := hO82.ret hret80
    have hx0_82 := hO82.exit (i := 0) rfl hx0_80
    refine c_cond h rfl (fun ec83 => ?_) (fun ec83 => ?_)
    ·
     have hS := ifT ec83 hS
     refine c_skip ?_
     refine hN82 _ _ ?_
     refine c_block _ (fun a w c => c) fun Q84 hN84 hx1_84 hO84 => ?_
     have hret84 := hO84.ret hret80
     have hx0_84 := hO84.exit (i := 0) rfl hx0_80
     refine c_region fun K hK => ?_
     obtain ⟨c85, hS⟩ := ck hS
     obtain ⟨z39_86, ez39_86, hS⟩ := bv hS
     refine st_idx h Tryz.underlying36 Tryz.sizeOf9 rfl rfl (r35_77.at H.zin) (fun _ => rfl) z39_86 c85.1 (by rw [ez39_86]; exact gel_some c85) rfl fun a v39 A39 h => ?_
     refine st1 h rfl rfl rfl (v_loadAt1 rfl A39 Tryz.isAgg9 rfl) fun a h => ?_
     refine st1 h rfl rfl rfl (v_assign rfl) fun a h => ?_
     refine c_nil hK ?_
     refine c_flow h (by kernel_rfl) (by kernel_rfl) ?_
     refine f1 [11] rfl rfl rfl rfl (fun w X => v_move rfl) ?_
     obtain ⟨y42_87, hy42_87, hS⟩ := bo hS
     refine f2 (V := .int .i64 y42_87) [41] rfl rfl rfl rfl (fun w X => have H := H.ext X; d_call [_] rfl Tryz.call16 (tree_Number_ok (x0 := z39_86) hy42_87 (hG.ext H.out))) ?_
     refine f1 [3] rfl rfl rfl rfl (fun w X => have H := H.ext X; v_loadA [_, _, _] rfl Tryz.isAgg25 Tryz.sizeOf25 (H.hp.get 0 rfl) rfl rfl) ?_
     obtain ⟨y44_88, hy44_88, hS⟩ := bo hS
     refine f_op [43] rfl rfl rfl rfl false (.rel (fun w' v' => ∃ v44_89_1, v' = .agg #[.bool y44_88.area, .int .i64 y44_88.cols, v44_89_1] ∧ RdZ (ZB Z w.heap.size w') v44_89_1 3 vL y44_88.l)) (fun w w' v X h => by obtain ⟨v44_89_1, hv, hr0⟩ := h; exact ⟨_, hv, hr0.sub (ZB.grow X)⟩) (fun w X => ?_) ?_
     ·
      skip
      exact have Hs := ZB.of H.zin X; have H := H.ext X; Does.doesR (d_call [_] rfl Tryz.call9 (funcs_Of_ok (x0 := x0) hy44_88 (ZB.inn H.zin))) (fun v w' hr => by obtain ⟨v44_89_1, hv, hr0, X'⟩ := hr; exact ⟨⟨_, hv, hr0.sub (ZB.back2 X X')⟩, X'⟩)
     refine f_op [44] rfl rfl rfl rfl false (.rel (fun w' v' => RdN (ZB Z w.heap.size w') v' argEnc ([y44_88] : List (Arg)))) rn_stab (fun w X => ?_) ?_
     ·
      intro v44 h44
      obtain ⟨v44_89_1, rfl, r44_89_1⟩ := h44
      exact d_sliceRN (E := argEnc) (data := [y44_88]) ([⟨[.bool y44_88.area, .int .i64 y44_88.cols, v44_89_1], rfl⟩] : List (Cl 3)) H.zin X Tryz.underlying27 Tryz.sizeOf29 Tryz.zeroValue29 rfl (zl := [.bool false, .int .i64 0, .slice none 0 0]) (by kernel_rfl) (plA_get 1 3) [_] [_, _, _] rfl rfl rfl rfl ⟨⟨_, rfl, r44_89_1⟩, trivial⟩
     obtain ⟨y46_90, hy46_90, hS⟩ := bo hS
     refine f_op [42, 45] rfl rfl rfl rfl false (.eq (.agg #[.int .i64 y46_90.k, .int .i64 y46_90.n, S y46_90.s])) trivial (fun w X => ?_) ?_
     ·
      intro v45 h45
      exact have Hs := ZB.of H.zin X; have H := H.ext X; Does.doesF (d_call [_, _] rfl Tryz.call10 (funcs_Apply_ok (x0 := y42_87) (x1 := [y44_88]) hy46_90 (h45.hz (ZB.inn H.zin)) (hG.ext H.out)))
     refine f1 [11] rfl rfl rfl rfl (fun w X => v_move rfl) ?_
     refine f1 [7] rfl rfl rfl rfl (fun w X => v_move rfl) ?_
     obtain ⟨y49_91, hy49_91, hS⟩ := bo hS
     refine f2 (V := .agg #[.int .i64 y49_91.k, .int .i64 y49_91.n, S y49_91.s]) [47, 48] rfl rfl rfl rfl (fun w X => d_call [_, _] rfl Tryz.call19 (texts_One_ok (x0 := z39_86) (x1 := y30_18) hy49_91)) ?_
     obtain ⟨z50_92, ez50_92, hS⟩ := bv hS
     refine f1 [46, 49] rfl rfl rfl rfl (fun w X => vB ez50_92 (v_aggne rfl rfl age25 (agq25 _ _ _ _ _ _))) ?_
     refine fn_ ?_
     intro a w X hR hA
     have h := hR.out [3, 4, 5, 7, 8, 9, 35, 36, 37, 50]
     have h : Fr 131 [(50, _), (37, _), (36, _), (35, _), (9, _), (8, _), (7, _), (5, _), (4, _), (3, _)] a := h
     have H := H.ext X
     refine c_cond h rfl (fun ec93 => ?_) (fun ec93 => ?_)
     ·
      have hS := ifT ec93 hS
      refine c_region fun K hK => ?_
      refine st1 h rfl rfl rfl (v_assign rfl) fun a h => ?_
      refine c_nil hK ?_
      have h := h.only [6] (l' := [_]) rfl
      obtain rfl := so hS
      refine c_ret (hret84 _ _ (out1 h rfl rfl ?_))
      exact ⟨rfl, H.out⟩
     ·
      have hS := ifF ec93 hS
      refine c_skip ?_
      refine hN84 _ _ ?_
      refine c_lregion ?_
      obtain ⟨z51_94, ez51_94, hS⟩ := bv hS
      refine st1 h rfl rfl rfl (vI ez51_94 (v_addw rfl rfl)) fun a h => ?_
      refine st1 h rfl rfl rfl (v_move rfl) fun a h => ?_
      refine c_lnil ?_
      exact hN80 _ _ _ (Nat.lt_succ_self _) ⟨_, z51_94, lpN en79 hS, (h.only [3, 4, 5, 7, 8, 9, 35, 36, 37] (l' := [_, _, _, _, _, _, _, _, _]) rfl), H, r35_77⟩
    ·
     have hS := ifF ec83 hS
     refine c_exit ?_
     refine hx0_82 _ _ ?_
     exact hN21 _ _ ⟨_, (), hS, (h.only [3, 4, 5, 7, 8, 9] (l' := [_, _, _, _, _, _]) rfl), H⟩
end Go.Proofs.YtnmkeanoidadcaaGreatDoor
