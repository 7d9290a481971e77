/- Walks: the code computes what the partial functions say. -/
import Derived.Test.YtnmkeanoidadcaaGreatDoorSpG
import Derived.Test.YtnmkeanoidadcaaGreatDoorWkD
set_option linter.unusedSimpArgs false
set_option linter.unusedVariables false
set_option linter.unusedSectionVars false
namespace Go.Proofs.YtnmkeanoidadcaaGreatDoor
open Go.Stp Go.RowKit Go.ValP Go.Sp
set_option maxRecDepth 100000
theorem reckonerlaw12_FuncsNumbers_ok {x0 : V} {x1 : V} {res : Bool} {w0 : World} (hS : reckonerlaw12_FuncsNumbers x0 x1 = some res) (hG : GW w0) : Calls Tryz.prog 4 [.agg #[.int .i64 x0.k, .int .i64 x0.n, S x0.s], .agg #[.int .i64 x1.k, .int .i64 x1.n, S x1.s]].toArray w0 (Ret fun v w => v = .bool res ∧ Ext w0 w) := by
 refine enter Tryz.func4 rfl rfl rfl fun Q a h hret0 hnor => ?_
 obtain ⟨Zi, Z, H⟩ : ∃ Zi Z, HZ w0 Zi Z [] w0 := ⟨_, _, HZ.start w0⟩
 have h := h.only [0, 1] (l' := [_, _]) rfl
 unfold reckonerlaw12_FuncsNumbers at hS
 refine c_region fun K hK => ?_
 refine z_box h H rfl [_, _, _] rfl rfl fun a p2_1 w X H h => ?_
 have H : HZ w0 _ _ [_] _ := H
 refine z_box h H rfl [_, _, _] rfl rfl fun a p3_2 w X H h => ?_
 have H : HZ w0 _ _ [_, _] _ := H
 refine st1 h rfl rfl rfl (v_assign rfl) fun a h => ?_
 refine c_nil hK ?_
 refine c_seq _ (fun a w c => c) fun Q3 hN3 hO3 => ?_
 have hret3 := hO3.ret hret0
 refine c_region fun K hK => ?_
 obtain ⟨y13_4, hy13_4, hS⟩ := bo hS
 refine st2v (T := Ext) (V := .bool y13_4) h rfl rfl rfl (d_call [] rfl Tryz.call7 (reckonerlaw12_fit_ok  hy13_4 (hG.ext H.out))) fun w X a h => ?_
 have H := H.ext X
 obtain ⟨z14_5, ez14_5, hS⟩ := bv hS
 refine st1 h rfl rfl rfl (vB ez14_5 (v_not rfl)) fun a h => ?_
 refine c_nil hK ?_
 have h := h.only [2, 3, 14] (l' := [_, _, _]) rfl
 refine c_cond h rfl (fun ec6 => ?_) (fun ec6 => ?_)
 ·
  have hS := ifT ec6 hS
  refine c_region fun K hK => ?_
  refine st1 h rfl rfl rfl (v_assign rfl) fun a h => ?_
  refine c_nil hK ?_
  obtain rfl := so hS
  refine c_ret (hret3 _ _ (out1 h rfl rfl ?_))
  exact ⟨rfl, H.out⟩
 ·
  have hS := ifF ec6 hS
  refine c_skip ?_
  refine hN3 _ _ ?_
  refine c_seq _ (fun a w c => c) fun Q7 hN7 hO7 => ?_
  have hret7 := hO7.ret hret0
  refine c_region fun K hK => ?_
  refine st1 h rfl rfl rfl (v_loadA [_, _, _] rfl Tryz.isAgg25 Tryz.sizeOf25 (H.hp.get 0 rfl) rfl rfl) fun a h => ?_
  obtain ⟨y16_8, hy16_8, hS⟩ := bo hS
  refine st2v (T := Ext) (V := .bool y16_8) h rfl rfl rfl (d_call [_] rfl Tryz.call8 (reckonerlaw12_good_ok (x0 := x0) hy16_8)) fun w X a h => ?_
  have H := H.ext X
  obtain ⟨z17_9, ez17_9, hS⟩ := bv hS
  refine st1 h rfl rfl rfl (vB ez17_9 (v_not rfl)) fun a h => ?_
  refine st1 h rfl rfl rfl (v_move rfl) fun a h => ?_
  refine st_g h rfl rfl (gF rfl) rfl rfl (fun e0 => v_loadA [_, _, _] rfl Tryz.isAgg25 Tryz.sizeOf25 (H.hp.get 1 rfl) rfl rfl) fun a h => ?_
  obtain ⟨y20_10, hy20_10, hS⟩ := bo hS
  refine st_gd (T := Ext) (V := .bool y20_10) h rfl rfl (gF rfl) rfl rfl (Ext.refl _) (fun e0 => d_call [_] (evs_c (eg e0 rfl) evs_n) Tryz.call8 (reckonerlaw12_good_ok (x0 := x1) (ifT e0 hy20_10))) fun w X a h => ?_
  have H := H.ext X
  obtain ⟨z21_11, ez21_11, hS⟩ := bv hS
  refine st_g h rfl rfl (gF rfl) rfl rfl (fun e0 => vB ez21_11 (v_not (eg e0 rfl))) fun a h => ?_
  obtain ⟨z22_12, ez22_12, hS⟩ := bv hS
  refine st1 h rfl rfl rfl (vB ez22_12 (v_or rfl rfl)) fun a h => ?_
  refine c_nil hK ?_
  have h := h.only [2, 3, 22] (l' := [_, _, _]) rfl
  refine c_cond h rfl (fun ec13 => ?_) (fun ec13 => ?_)
  ·
   have hS := ifT ec13 hS
   refine c_region fun K hK => ?_
   refine st1 h rfl rfl rfl (v_assign rfl) fun a h => ?_
   refine c_nil hK ?_
   obtain rfl := so hS
   refine c_ret (hret7 _ _ (out1 h rfl rfl ?_))
   exact ⟨rfl, H.out⟩
  ·
   have hS := ifF ec13 hS
   refine c_skip ?_
   refine hN7 _ _ ?_
   refine c_flowT 6 h (by kernel_rfl) (by kernel_rfl) fun K hK => ?_
   refine f1 [2] rfl rfl rfl rfl (fun w X => have H := H.ext X; v_loadA [_, _, _] rfl Tryz.isAgg25 Tryz.sizeOf25 (H.hp.get 0 rfl) rfl rfl) ?_
   obtain ⟨y24_14, hy24_14, hS⟩ := bo hS
   refine f2 (V := .agg #[.int .i64 y24_14.k, .int .i64 y24_14.n, S y24_14.s]) [23] rfl rfl rfl rfl (fun w X => d_call [_] rfl Tryz.call14 (value_ToNum_ok (x0 := x0) hy24_14)) ?_
   refine f1 [3] rfl rfl rfl rfl (fun w X => have H := H.ext X; v_loadA [_, _, _] rfl Tryz.isAgg25 Tryz.sizeOf25 (H.hp.get 1 rfl) rfl rfl) ?_
   obtain ⟨y26_15, hy26_15, hS⟩ := bo hS
   refine f2 (V := .agg #[.int .i64 y26_15.k, .int .i64 y26_15.n, S y26_15.s]) [25] rfl rfl rfl rfl (fun w X => d_call [_] rfl Tryz.call14 (value_ToNum_ok (x0 := x1) hy26_15)) ?_
   refine f_alloc Tryz.zeroValue25 [_, _, _] rfl rfl ?_
   refine f_alloc Tryz.zeroValue25 [_, _, _] rfl rfl ?_
   refine fn_ ?_
   intro a w X hR hA
   obtain ⟨_, ⟨p5_16, rfl, hb5⟩, _, ⟨p6_17, rfl, hb6⟩, h⟩ := hR.out [2, 3, 5, 6, 24, 26]
   have h : Fr 88 [(26, _), (24, _), (6, _), (5, _), (3, _), (2, _)] a := h
   have lo5 := hA.lo' h (s := 5) rfl rfl
   have lo6 := hA.lo' h (s := 6) rfl rfl
   have ne_ := hA.ne' h (s := 5) (t := 6) rfl rfl rfl rfl rfl
   have H := H.pushF2 X hb5 lo5 hb6 lo6 ne_
   have H : HZ w0 _ _ [_, _, _, _] _ := H
   refine z_store h H 2 rfl rfl rfl Tryz.sizeOf25 [_, _, _] rfl rfl rfl (by simp) [_, _, _] rfl (hl' := [_, _, _, _]) rfl fun w H => ?_
   refine z_store h H 3 rfl rfl rfl Tryz.sizeOf25 [_, _, _] rfl rfl rfl (by simp) [_, _, _] rfl (hl' := [_, _, _, _]) rfl fun w H => ?_
   refine c_nil hK ?_
   obtain ⟨J19, eJ19, hS⟩ := bv hS
   refine c_seq (fun a w => ∃ (Z : FZ) (s19 : Unit), J19 s19 = some res ∧ Fr 88 [(2, .pointer (some ⟨p2_1, 0, none⟩)), (3, .pointer (some ⟨p3_2, 0, none⟩)), (5, .pointer (some ⟨p5_16, 0, none⟩)), (6, .pointer (some ⟨p6_17, 0, none⟩))] a ∧ HZ w0 Zi Z [.blk p2_1 (Cel [.int .i64 x0.k, .int .i64 x0.n, S x0.s] 25), .blk p3_2 (Cel [.int .i64 x1.k, .int .i64 x1.n, S x1.s] 25), .blk p5_16 (Cel [.int .i64 y24_14.k, .int .i64 y24_14.n, S y24_14.s] 25), .blk p6_17 (Cel [.int .i64 y26_15.k, .int .i64 y26_15.n, S y26_15.s] 25)] w) ?_ fun Q18 hN18 hO18 => ?_
   ·
    rintro a w ⟨Z, s19, hS, h, H⟩
    subst eJ19
    obtain ⟨J21, eJ21, hS⟩ := bv hS
    refine c_seq (fun a w => ∃ (Z : FZ) (s21 : Unit), J21 s21 = some res ∧ Fr 88 [] a ∧ HZ w0 Zi Z [.blk p2_1 (Cel [.int .i64 x0.k, .int .i64 x0.n, S x0.s] 25), .blk p3_2 (Cel [.int .i64 x1.k, .int .i64 x1.n, S x1.s] 25), .blk p5_16 (Cel [.int .i64 y24_14.k, .int .i64 y24_14.n, S y24_14.s] 25), .blk p6_17 (Cel [.int .i64 y26_15.k, .int .i64 y26_15.n, S y26_15.s] 25)] w) ?_ fun Q20 hN20 hO20 => ?_
    ·
     rintro a w ⟨Z, s21, hS, h, H⟩
     subst eJ21
     refine c_region fun K hK => ?_
     refine st1 h rfl rfl rfl (v_assign rfl) fun a h => ?_
     refine c_nil hK ?_
     obtain rfl := so hS
     refine c_ret (hret0 _ _ (out1 h rfl rfl ?_))
     exact ⟨rfl, H.out⟩
    ·
     have hret20 := hO20.ret hret0
     refine c_region fun K hK => ?_
     refine z_slice (enc := eS) ([([82, 79, 85, 78, 68] : List UInt8), ([77, 79, 68] : List UInt8), ([80, 79, 87, 69, 82] : List UInt8), ([81, 85, 79, 84, 73, 69, 78, 84] : List UInt8), ([71, 67, 68] : List UInt8), ([76, 67, 77] : List UInt8)] : List (List UInt8)) h H Tryz.underlying36 Tryz.sizeOf9 Tryz.zeroValue9 rfl (zl := [S [], S [], S [], S [], S [], S []]) (by kernel_rfl) (plA_get 6 1) [_, _, _, _, _, _] [_, _, _, _, _, _] rfl rfl rfl rfl rfl fun a v57_22 Z w hsub X H r57_22 h => ?_
     refine st1 h rfl rfl rfl (v_len Tryz.underlying36 rfl (r57_22.at H.zin)) fun a h => ?_
     refine st1 h rfl rfl rfl (v_move rfl) fun a h => ?_
     refine c_nil hK ?_
     refine c_lblock fun Q23 hN23 hx2_23 hO23 => ?_
     have hret23 := hO23.ret hret20
     obtain ⟨B24, eB24, hS⟩ := bv hS
     refine c_loopN (fun mu_ a w => ∃ (Z : FZ) (s24 : Int), loopF B24 mu_ s24 = some res ∧ Fr 88 [(2, .pointer (some ⟨p2_1, 0, none⟩)), (3, .pointer (some ⟨p3_2, 0, none⟩)), (5, .pointer (some ⟨p5_16, 0, none⟩)), (6, .pointer (some ⟨p6_17, 0, none⟩)), (57, v57_22), (58, .int .i64 ((([([82, 79, 85, 78, 68] : List UInt8), ([77, 79, 68] : List UInt8), ([80, 79, 87, 69, 82] : List UInt8), ([81, 85, 79, 84, 73, 69, 78, 84] : List UInt8), ([71, 67, 68] : List UInt8), ([76, 67, 77] : List UInt8)]).length : Int))), (59, .int .i64 s24)] a ∧ HZ w0 Zi Z [.blk p2_1 (Cel [.int .i64 x0.k, .int .i64 x0.n, S x0.s] 25), .blk p3_2 (Cel [.int .i64 x1.k, .int .i64 x1.n, S x1.s] 25), .blk p5_16 (Cel [.int .i64 y24_14.k, .int .i64 y24_14.n, S y24_14.s] 25), .blk p6_17 (Cel [.int .i64 y26_15.k, .int .i64 y26_15.n, S y26_15.s] 25)] w ∧ RdZ Z v57_22 1 eS ([([82, 79, 85, 78, 68] : List UInt8), ([77, 79, 68] : List UInt8), ([80, 79, 87, 69, 82] : List UInt8), ([81, 85, 79, 84, 73, 69, 78, 84] : List UInt8), ([71, 67, 68] : List UInt8), ([76, 67, 77] : List UInt8)])) KK ⟨_, 0, hS, (h.only [2, 3, 5, 6, 57, 58, 59] (l' := [_, _, _, _, _, _, _]) rfl), H, r57_22⟩ ?_
     rintro mu_ a w ⟨Z, s24, hS, h, H, r57_22⟩ Q25 hN25 hO25
     obtain ⟨mu_, rfl, n24, en24, hS⟩ := lpX eB24 hS
     have hret25 := hO25.ret hret23
     have hx2_25 := hO25.exit (i := 2) rfl hx2_23
     refine c_region fun K hK => ?_
     obtain ⟨z60_26, ez60_26, hS⟩ := bv hS
     refine st1 h rfl rfl rfl (vB ez60_26 (v_lt rfl rfl)) fun a h => ?_
     refine c_nil hK ?_
     refine c_seq _ (fun a w c => c) fun Q27 hN27 hO27 => ?_
     have hret27 := hO27.ret hret25
     have hx2_27 := hO27.exit (i := 2) rfl hx2_25
     refine c_cond h rfl (fun ec28 => ?_) (fun ec28 => ?_)
     ·
      have hS := ifT ec28 hS
      refine c_skip ?_
      refine hN27 _ _ ?_
      refine c_block _ (fun a w c => c) fun Q29 hN29 hx3_29 hO29 => ?_
      have hret29 := hO29.ret hret25
      have hx2_29 := hO29.exit (i := 2) rfl hx2_25
      refine c_region fun K hK => ?_
      obtain ⟨c30, hS⟩ := ck hS
      obtain ⟨z61_31, ez61_31, hS⟩ := bv hS
      refine st_idx h Tryz.underlying36 Tryz.sizeOf9 rfl rfl (r57_22.at H.zin) (fun _ => rfl) z61_31 c30.1 (by rw [ez61_31]; exact gel_some c30) rfl fun a v61 A61 h => ?_
      refine st1 h rfl rfl rfl (v_loadAt1 rfl A61 Tryz.isAgg9 rfl) fun a h => ?_
      refine st1 h rfl rfl rfl (v_assign rfl) fun a h => ?_
      refine c_nil hK ?_
      refine c_region fun K hK => ?_
      refine st1 h rfl rfl rfl (v_loadA [_, _, _] rfl Tryz.isAgg25 Tryz.sizeOf25 (H.hp.get 2 rfl) rfl rfl) fun a h => ?_
      refine z_alloc h H Tryz.zeroValue25 [_, _, _] rfl rfl fun a p12_32 w X H h => ?_
      have A61 := At.ext A61 X
      have H : HZ w0 _ _ [_, _, _, _, _] _ := H
      refine z_store h H 4 rfl rfl rfl Tryz.sizeOf25 [_, _, _] rfl rfl rfl (by simp) [_, _, _] rfl (hl' := [_, _, _, _, _]) rfl fun w H => ?_
      refine c_nil hK ?_
      obtain ⟨J34, eJ34, hS⟩ := bv hS
      refine c_seq (fun a w => ∃ (Z : FZ) (s34 : Int × Int × (List UInt8)), J34 s34 = some res ∧ Fr 88 [(2, .pointer (some ⟨p2_1, 0, none⟩)), (3, .pointer (some ⟨p3_2, 0, none⟩)), (5, .pointer (some ⟨p5_16, 0, none⟩)), (6, .pointer (some ⟨p6_17, 0, none⟩)), (11, S z61_31), (12, .pointer (some ⟨p12_32, 0, none⟩)), (57, v57_22), (58, .int .i64 ((([([82, 79, 85, 78, 68] : List UInt8), ([77, 79, 68] : List UInt8), ([80, 79, 87, 69, 82] : List UInt8), ([81, 85, 79, 84, 73, 69, 78, 84] : List UInt8), ([71, 67, 68] : List UInt8), ([76, 67, 77] : List UInt8)]).length : Int))), (59, .int .i64 s24)] a ∧ HZ w0 Zi Z [.blk p2_1 (Cel [.int .i64 x0.k, .int .i64 x0.n, S x0.s] 25), .blk p3_2 (Cel [.int .i64 x1.k, .int .i64 x1.n, S x1.s] 25), .blk p5_16 (Cel [.int .i64 y24_14.k, .int .i64 y24_14.n, S y24_14.s] 25), .blk p6_17 (Cel [.int .i64 y26_15.k, .int .i64 y26_15.n, S y26_15.s] 25), .blk p12_32 (Cel [.int .i64 s34.1, .int .i64 s34.2.1, S s34.2.2] 25)] w ∧ RdZ Z v57_22 1 eS ([([82, 79, 85, 78, 68] : List UInt8), ([77, 79, 68] : List UInt8), ([80, 79, 87, 69, 82] : List UInt8), ([81, 85, 79, 84, 73, 69, 78, 84] : List UInt8), ([71, 67, 68] : List UInt8), ([76, 67, 77] : List UInt8)])) ?_ fun Q33 hN33 hO33 => ?_
      ·
       rintro a w ⟨Z, s34, hS, h, H, r57_22⟩
       subst eJ34
       refine c_flow h (by kernel_rfl) (by kernel_rfl) ?_
       refine f1 [11] rfl rfl rfl rfl (fun w X => v_move rfl) ?_
       obtain ⟨y78_35, hy78_35, hS⟩ := bo hS
       refine f2 (V := .int .i64 y78_35) [77] rfl rfl rfl rfl (fun w X => have H := H.ext X; d_call [_] rfl Tryz.call16 (tree_Number_ok (x0 := z61_31) hy78_35 (hG.ext H.out))) ?_
       refine f1 [2] rfl rfl rfl rfl (fun w X => have H := H.ext X; v_loadA [_, _, _] rfl Tryz.isAgg25 Tryz.sizeOf25 (H.hp.get 0 rfl) rfl rfl) ?_
       obtain ⟨y80_36, hy80_36, hS⟩ := bo hS
       refine f_op [79] rfl rfl rfl rfl false (.rel (fun w' v' => ∃ v80_37_1, v' = .agg #[.bool y80_36.area, .int .i64 y80_36.cols, v80_37_1] ∧ RdZ (ZB Z w.heap.size w') v80_37_1 3 vL y80_36.l)) (fun w w' v X h => by obtain ⟨v80_37_1, hv, hr0⟩ := h; exact ⟨_, hv, hr0.sub (ZB.grow X)⟩) (fun w X => ?_) ?_
       ·
        skip
        exact have Hs := ZB.of H.zin X; have H := H.ext X; Does.doesR (d_call [_] rfl Tryz.call9 (funcs_Of_ok (x0 := x0) hy80_36 (ZB.inn H.zin))) (fun v w' hr => by obtain ⟨v80_37_1, hv, hr0, X'⟩ := hr; exact ⟨⟨_, hv, hr0.sub (ZB.back2 X X')⟩, X'⟩)
       refine f1 [3] rfl rfl rfl rfl (fun w X => have H := H.ext X; v_loadA [_, _, _] rfl Tryz.isAgg25 Tryz.sizeOf25 (H.hp.get 1 rfl) rfl rfl) ?_
       obtain ⟨y82_38, hy82_38, hS⟩ := bo hS
       refine f_op [81] rfl rfl rfl rfl false (.rel (fun w' v' => ∃ v82_39_1, v' = .agg #[.bool y82_38.area, .int .i64 y82_38.cols, v82_39_1] ∧ RdZ (ZB Z w.heap.size w') v82_39_1 3 vL y82_38.l)) (fun w w' v X h => by obtain ⟨v82_39_1, hv, hr0⟩ := h; exact ⟨_, hv, hr0.sub (ZB.grow X)⟩) (fun w X => ?_) ?_
       ·
        skip
        exact have Hs := ZB.of H.zin X; have H := H.ext X; Does.doesR (d_call [_] rfl Tryz.call9 (funcs_Of_ok (x0 := x1) hy82_38 (ZB.inn H.zin))) (fun v w' hr => by obtain ⟨v82_39_1, hv, hr0, X'⟩ := hr; exact ⟨⟨_, hv, hr0.sub (ZB.back2 X X')⟩, X'⟩)
       refine f_op [80, 82] rfl rfl rfl rfl false (.rel (fun w' v' => RdN (ZB Z w.heap.size w') v' argEnc ([y80_36, y82_38] : List (Arg)))) rn_stab (fun w X => ?_) ?_
       ·
        intro v80 h80 v82 h82
        obtain ⟨v80_37_1, rfl, r80_37_1⟩ := h80
        obtain ⟨v82_39_1, rfl, r82_39_1⟩ := h82
        exact d_sliceRN (E := argEnc) (data := [y80_36, y82_38]) ([⟨[.bool y80_36.area, .int .i64 y80_36.cols, v80_37_1], rfl⟩, ⟨[.bool y82_38.area, .int .i64 y82_38.cols, v82_39_1], rfl⟩] : List (Cl 3)) H.zin X Tryz.underlying27 Tryz.sizeOf29 Tryz.zeroValue29 rfl (zl := [.bool false, .int .i64 0, .slice none 0 0, .bool false, .int .i64 0, .slice none 0 0]) (by kernel_rfl) (plA_get 2 3) [_, _] [_, _, _, _, _, _] rfl rfl rfl rfl ⟨⟨_, rfl, r80_37_1⟩, ⟨_, rfl, r82_39_1⟩, trivial⟩
       obtain ⟨y84_40, hy84_40, hS⟩ := bo hS
       refine f_op [78, 83] rfl rfl rfl rfl false (.eq (.agg #[.int .i64 y84_40.k, .int .i64 y84_40.n, S y84_40.s])) trivial (fun w X => ?_) ?_
       ·
        intro v83 h83
        exact have Hs := ZB.of H.zin X; have H := H.ext X; Does.doesF (d_call [_, _] rfl Tryz.call10 (funcs_Apply_ok (x0 := y78_35) (x1 := [y80_36, y82_38]) hy84_40 (h83.hz (ZB.inn H.zin)) (hG.ext H.out)))
       refine f1 [12] rfl rfl rfl rfl (fun w X => have H := H.ext X; v_loadA [_, _, _] rfl Tryz.isAgg25 Tryz.sizeOf25 (H.hp.get 4 rfl) rfl rfl) ?_
       obtain ⟨z86_41, ez86_41, hS⟩ := bv hS
       refine f1 [84, 85] rfl rfl rfl rfl (fun w X => vB ez86_41 (v_aggne rfl rfl age25 (agq25 _ _ _ _ _ _))) ?_
       refine fn_ ?_
       intro a w X hR hA
       have h := hR.out [2, 3, 5, 6, 57, 58, 59, 86]
       have h : Fr 88 [(86, _), (59, _), (58, _), (57, _), (6, _), (5, _), (3, _), (2, _)] a := h
       have H := H.ext X
       refine c_cond h rfl (fun ec42 => ?_) (fun ec42 => ?_)
       ·
        have hS := ifT ec42 hS
        refine c_region fun K hK => ?_
        refine st1 h rfl rfl rfl (v_assign rfl) fun a h => ?_
        refine c_nil hK ?_
        have h := h.only [4] (l' := [_]) rfl
        obtain rfl := so hS
        refine c_ret (hret29 _ _ (out1 h rfl rfl ?_))
        exact ⟨rfl, H.out⟩
       ·
        have hS := ifF ec42 hS
        refine c_skip ?_
        refine hN29 _ _ ?_
        refine c_lregion ?_
        obtain ⟨z87_43, ez87_43, hS⟩ := bv hS
        refine st1 h rfl rfl rfl (vI ez87_43 (v_addw rfl rfl)) fun a h => ?_
        refine st1 h rfl rfl rfl (v_move rfl) fun a h => ?_
        refine c_lnil ?_
        exact hN25 _ _ _ (Nat.lt_succ_self _) ⟨_, z87_43, lpN en24 hS, (h.only [2, 3, 5, 6, 57, 58, 59] (l' := [_, _, _, _, _, _, _]) rfl), (H.keepN 4 rfl), r57_22⟩
      ·
       have hret33 := hO33.ret hret29
       have hx2_33 := hO33.exit (i := 2) rfl hx2_29
       have hx3_33 := hO33.exit (i := 3) rfl hx3_29
       refine c_region fun K hK => ?_
       refine st1 h rfl rfl rfl (v_fieldAddr rfl Tryz.underlying25 rfl Tryz.sizeOf3 rfl rfl) fun a h => ?_
       refine st1 h rfl rfl rfl (v_load1 rfl Tryz.isAgg3 (H.hp.get 2 rfl) rfl) fun a h => ?_
       obtain ⟨z66_44, ez66_44, hS⟩ := bv hS
       refine st1 h rfl rfl rfl (vB ez66_44 (v_ne rfl rfl)) fun a h => ?_
       refine c_nil hK ?_
       have h := h.only [2, 3, 5, 6, 11, 12, 57, 58, 59, 66] (l' := [_, _, _, _, _, _, _, _, _, _]) rfl
       refine c_cond h rfl (fun ec45 => ?_) (fun ec45 => ?_)
       ·
        have hS := ifT ec45 hS
        refine c_region fun K hK => ?_
        refine st1 h rfl rfl rfl (v_loadA [_, _, _] rfl Tryz.isAgg25 Tryz.sizeOf25 (H.hp.get 3 rfl) rfl rfl) fun a h => ?_
        refine z_store h H 4 rfl rfl rfl Tryz.sizeOf25 [_, _, _] rfl rfl rfl (by simp) [_, _, _] rfl (hl' := [_, _, _, _, _]) rfl fun w H => ?_
        refine c_nil hK ?_
        refine c_region fun K hK => ?_
        refine st1 h rfl rfl rfl (v_fieldAddr rfl Tryz.underlying25 rfl Tryz.sizeOf3 rfl rfl) fun a h => ?_
        refine st1 h rfl rfl rfl (v_load1 rfl Tryz.isAgg3 (H.hp.get 3 rfl) rfl) fun a h => ?_
        obtain ⟨z70_46, ez70_46, hS⟩ := bv hS
        refine st1 h rfl rfl rfl (vB ez70_46 (v_ne rfl rfl)) fun a h => ?_
        refine c_nil hK ?_
        have h := h.only [2, 3, 5, 6, 11, 12, 57, 58, 59, 70] (l' := [_, _, _, _, _, _, _, _, _, _]) rfl
        refine c_cond h rfl (fun ec47 => ?_) (fun ec47 => ?_)
        ·
         have hS := ifT ec47 hS
         refine c_lregion ?_
         refine st1 h rfl rfl rfl (v_move rfl) fun a h => ?_
         refine st1 h rfl rfl rfl (v_fieldAddr rfl Tryz.underlying25 rfl Tryz.sizeOf2 rfl rfl) fun a h => ?_
         refine st1 h rfl rfl rfl (v_load1 rfl Tryz.isAgg2 (H.hp.get 2 rfl) rfl) fun a h => ?_
         refine st1 h rfl rfl rfl (v_fieldAddr rfl Tryz.underlying25 rfl Tryz.sizeOf2 rfl rfl) fun a h => ?_
         refine st1 h rfl rfl rfl (v_load1 rfl Tryz.isAgg2 (H.hp.get 3 rfl) rfl) fun a h => ?_
         obtain ⟨y76_48, hy76_48, hS⟩ := bo hS
         refine st2v (T := Ext) (V := .agg #[.int .i64 y76_48.k, .int .i64 y76_48.n, S y76_48.s]) h rfl rfl rfl (d_call [_, _, _] rfl Tryz.call17 (maths_Two_ok (x0 := z61_31) (x1 := y24_14.n) (x2 := y26_15.n) hy76_48)) fun w X a h => ?_
         have H := H.ext X
         refine z_store h H 4 rfl rfl rfl Tryz.sizeOf25 [_, _, _] rfl rfl rfl (by simp) [_, _, _] rfl (hl' := [_, _, _, _, _]) rfl fun w H => ?_
         refine c_lnil ?_
         exact hN33 _ _ ⟨_, (y76_48.k, y76_48.n, y76_48.s), hS, (h.only [2, 3, 5, 6, 11, 12, 57, 58, 59] (l' := [_, _, _, _, _, _, _, _, _]) rfl), H, r57_22⟩
        ·
         have hS := ifF ec47 hS
         refine c_skip ?_
         exact hN33 _ _ ⟨_, (y26_15.k, y26_15.n, y26_15.s), hS, (h.only [2, 3, 5, 6, 11, 12, 57, 58, 59] (l' := [_, _, _, _, _, _, _, _, _]) rfl), H, r57_22⟩
       ·
        have hS := ifF ec45 hS
        refine c_skip ?_
        exact hN33 _ _ ⟨_, (y24_14.k, y24_14.n, y24_14.s), hS, (h.only [2, 3, 5, 6, 11, 12, 57, 58, 59] (l' := [_, _, _, _, _, _, _, _, _]) rfl), H, r57_22⟩
     ·
      have hS := ifF ec28 hS
      refine c_exit ?_
      refine hx2_27 _ _ ?_
      exact hN20 _ _ ⟨_, (), hS, (h.only [] (l' := []) rfl), H⟩
   ·
    have hret18 := hO18.ret hret0
    refine c_region fun K hK => ?_
    refine z_slice (enc := eS) ([([65, 66, 83] : List UInt8), ([83, 73, 71, 78] : List UInt8), ([73, 78, 84] : List UInt8), ([84, 82, 85, 78, 67] : List UInt8), ([69, 86, 69, 78] : List UInt8), ([79, 68, 68] : List UInt8), ([70, 65, 67, 84] : List UInt8)] : List (List UInt8)) h H Tryz.underlying36 Tryz.sizeOf9 Tryz.zeroValue9 rfl (zl := [S [], S [], S [], S [], S [], S [], S []]) (by kernel_rfl) (plA_get 7 1) [_, _, _, _, _, _, _] [_, _, _, _, _, _, _] rfl rfl rfl rfl rfl fun a v27_49 Z w hsub X H r27_49 h => ?_
    refine st1 h rfl rfl rfl (v_len Tryz.underlying36 rfl (r27_49.at H.zin)) fun a h => ?_
    refine st1 h rfl rfl rfl (v_move rfl) fun a h => ?_
    refine c_nil hK ?_
    refine c_lblock fun Q50 hN50 hx0_50 hO50 => ?_
    have hret50 := hO50.ret hret18
    obtain ⟨B51, eB51, hS⟩ := bv hS
    refine c_loopN (fun mu_ a w => ∃ (Z : FZ) (s51 : Int), loopF B51 mu_ s51 = some res ∧ Fr 88 [(2, .pointer (some ⟨p2_1, 0, none⟩)), (3, .pointer (some ⟨p3_2, 0, none⟩)), (5, .pointer (some ⟨p5_16, 0, none⟩)), (6, .pointer (some ⟨p6_17, 0, none⟩)), (27, v27_49), (28, .int .i64 ((([([65, 66, 83] : List UInt8), ([83, 73, 71, 78] : List UInt8), ([73, 78, 84] : List UInt8), ([84, 82, 85, 78, 67] : List UInt8), ([69, 86, 69, 78] : List UInt8), ([79, 68, 68] : List UInt8), ([70, 65, 67, 84] : List UInt8)]).length : Int))), (29, .int .i64 s51)] a ∧ HZ w0 Zi Z [.blk p2_1 (Cel [.int .i64 x0.k, .int .i64 x0.n, S x0.s] 25), .blk p3_2 (Cel [.int .i64 x1.k, .int .i64 x1.n, S x1.s] 25), .blk p5_16 (Cel [.int .i64 y24_14.k, .int .i64 y24_14.n, S y24_14.s] 25), .blk p6_17 (Cel [.int .i64 y26_15.k, .int .i64 y26_15.n, S y26_15.s] 25)] w ∧ RdZ Z v27_49 1 eS ([([65, 66, 83] : List UInt8), ([83, 73, 71, 78] : List UInt8), ([73, 78, 84] : List UInt8), ([84, 82, 85, 78, 67] : List UInt8), ([69, 86, 69, 78] : List UInt8), ([79, 68, 68] : List UInt8), ([70, 65, 67, 84] : List UInt8)])) KK ⟨_, 0, hS, (h.only [2, 3, 5, 6, 27, 28, 29] (l' := [_, _, _, _, _, _, _]) rfl), H, r27_49⟩ ?_
    rintro mu_ a w ⟨Z, s51, hS, h, H, r27_49⟩ Q52 hN52 hO52
    obtain ⟨mu_, rfl, n51, en51, hS⟩ := lpX eB51 hS
    have hret52 := hO52.ret hret50
    have hx0_52 := hO52.exit (i := 0) rfl hx0_50
    refine c_region fun K hK => ?_
    obtain ⟨z30_53, ez30_53, hS⟩ := bv hS
    refine st1 h rfl rfl rfl (vB ez30_53 (v_lt rfl rfl)) fun a h => ?_
    refine c_nil hK ?_
    refine c_seq _ (fun a w c => c) fun Q54 hN54 hO54 => ?_
    have hret54 := hO54.ret hret52
    have hx0_54 := hO54.exit (i := 0) rfl hx0_52
    refine c_cond h rfl (fun ec55 => ?_) (fun ec55 => ?_)
    ·
     have hS := ifT ec55 hS
     refine c_skip ?_
     refine hN54 _ _ ?_
     refine c_block _ (fun a w c => c) fun Q56 hN56 hx1_56 hO56 => ?_
     have hret56 := hO56.ret hret52
     have hx0_56 := hO56.exit (i := 0) rfl hx0_52
     refine c_region fun K hK => ?_
     obtain ⟨c57, hS⟩ := ck hS
     obtain ⟨z31_58, ez31_58, hS⟩ := bv hS
     refine st_idx h Tryz.underlying36 Tryz.sizeOf9 rfl rfl (r27_49.at H.zin) (fun _ => rfl) z31_58 c57.1 (by rw [ez31_58]; exact gel_some c57) rfl fun a v31 A31 h => ?_
     refine st1 h rfl rfl rfl (v_loadAt1 rfl A31 Tryz.isAgg9 rfl) fun a h => ?_
     refine st1 h rfl rfl rfl (v_assign rfl) fun a h => ?_
     refine c_nil hK ?_
     refine c_region fun K hK => ?_
     refine st1 h rfl rfl rfl (v_loadA [_, _, _] rfl Tryz.isAgg25 Tryz.sizeOf25 (H.hp.get 2 rfl) rfl rfl) fun a h => ?_
     refine z_alloc h H Tryz.zeroValue25 [_, _, _] rfl rfl fun a p9_59 w X H h => ?_
     have A31 := At.ext A31 X
     have H : HZ w0 _ _ [_, _, _, _, _] _ := H
     refine z_store h H 4 rfl rfl rfl Tryz.sizeOf25 [_, _, _] rfl rfl rfl (by simp) [_, _, _] rfl (hl' := [_, _, _, _, _]) rfl fun w H => ?_
     refine c_nil hK ?_
     obtain ⟨J61, eJ61, hS⟩ := bv hS
     refine c_seq (fun a w => ∃ (Z : FZ) (s61 : Int × Int × (List UInt8)), J61 s61 = some res ∧ Fr 88 [(2, .pointer (some ⟨p2_1, 0, none⟩)), (3, .pointer (some ⟨p3_2, 0, none⟩)), (5, .pointer (some ⟨p5_16, 0, none⟩)), (6, .pointer (some ⟨p6_17, 0, none⟩)), (8, S z31_58), (9, .pointer (some ⟨p9_59, 0, none⟩)), (27, v27_49), (28, .int .i64 ((([([65, 66, 83] : List UInt8), ([83, 73, 71, 78] : List UInt8), ([73, 78, 84] : List UInt8), ([84, 82, 85, 78, 67] : List UInt8), ([69, 86, 69, 78] : List UInt8), ([79, 68, 68] : List UInt8), ([70, 65, 67, 84] : List UInt8)]).length : Int))), (29, .int .i64 s51)] a ∧ HZ w0 Zi Z [.blk p2_1 (Cel [.int .i64 x0.k, .int .i64 x0.n, S x0.s] 25), .blk p3_2 (Cel [.int .i64 x1.k, .int .i64 x1.n, S x1.s] 25), .blk p5_16 (Cel [.int .i64 y24_14.k, .int .i64 y24_14.n, S y24_14.s] 25), .blk p6_17 (Cel [.int .i64 y26_15.k, .int .i64 y26_15.n, S y26_15.s] 25), .blk p9_59 (Cel [.int .i64 s61.1, .int .i64 s61.2.1, S s61.2.2] 25)] w ∧ RdZ Z v27_49 1 eS ([([65, 66, 83] : List UInt8), ([83, 73, 71, 78] : List UInt8), ([73, 78, 84] : List UInt8), ([84, 82, 85, 78, 67] : List UInt8), ([69, 86, 69, 78] : List UInt8), ([79, 68, 68] : List UInt8), ([70, 65, 67, 84] : List UInt8)])) ?_ fun Q60 hN60 hO60 => ?_
     ·
      rintro a w ⟨Z, s61, hS, h, H, r27_49⟩
      subst eJ61
      refine c_flow h (by kernel_rfl) (by kernel_rfl) ?_
      refine f1 [8] rfl rfl rfl rfl (fun w X => v_move rfl) ?_
      obtain ⟨y42_62, hy42_62, hS⟩ := bo hS
      refine f2 (V := .int .i64 y42_62) [41] rfl rfl rfl rfl (fun w X => have H := H.ext X; d_call [_] rfl Tryz.call16 (tree_Number_ok (x0 := z31_58) hy42_62 (hG.ext H.out))) ?_
      refine f1 [2] rfl rfl rfl rfl (fun w X => have H := H.ext X; v_loadA [_, _, _] rfl Tryz.isAgg25 Tryz.sizeOf25 (H.hp.get 0 rfl) rfl rfl) ?_
      obtain ⟨y44_63, hy44_63, hS⟩ := bo hS
      refine f_op [43] rfl rfl rfl rfl false (.rel (fun w' v' => ∃ v44_64_1, v' = .agg #[.bool y44_63.area, .int .i64 y44_63.cols, v44_64_1] ∧ RdZ (ZB Z w.heap.size w') v44_64_1 3 vL y44_63.l)) (fun w w' v X h => by obtain ⟨v44_64_1, hv, hr0⟩ := h; exact ⟨_, hv, hr0.sub (ZB.grow X)⟩) (fun w X => ?_) ?_
      ·
       skip
       exact have Hs := ZB.of H.zin X; have H := H.ext X; Does.doesR (d_call [_] rfl Tryz.call9 (funcs_Of_ok (x0 := x0) hy44_63 (ZB.inn H.zin))) (fun v w' hr => by obtain ⟨v44_64_1, hv, hr0, X'⟩ := hr; exact ⟨⟨_, hv, hr0.sub (ZB.back2 X X')⟩, X'⟩)
      refine f_op [44] rfl rfl rfl rfl false (.rel (fun w' v' => RdN (ZB Z w.heap.size w') v' argEnc ([y44_63] : List (Arg)))) rn_stab (fun w X => ?_) ?_
      ·
       intro v44 h44
       obtain ⟨v44_64_1, rfl, r44_64_1⟩ := h44
       exact d_sliceRN (E := argEnc) (data := [y44_63]) ([⟨[.bool y44_63.area, .int .i64 y44_63.cols, v44_64_1], rfl⟩] : List (Cl 3)) H.zin X Tryz.underlying27 Tryz.sizeOf29 Tryz.zeroValue29 rfl (zl := [.bool false, .int .i64 0, .slice none 0 0]) (by kernel_rfl) (plA_get 1 3) [_] [_, _, _] rfl rfl rfl rfl ⟨⟨_, rfl, r44_64_1⟩, trivial⟩
      obtain ⟨y46_65, hy46_65, hS⟩ := bo hS
      refine f_op [42, 45] rfl rfl rfl rfl false (.eq (.agg #[.int .i64 y46_65.k, .int .i64 y46_65.n, S y46_65.s])) trivial (fun w X => ?_) ?_
      ·
       intro v45 h45
       exact have Hs := ZB.of H.zin X; have H := H.ext X; Does.doesF (d_call [_, _] rfl Tryz.call10 (funcs_Apply_ok (x0 := y42_62) (x1 := [y44_63]) hy46_65 (h45.hz (ZB.inn H.zin)) (hG.ext H.out)))
      refine f1 [9] rfl rfl rfl rfl (fun w X => have H := H.ext X; v_loadA [_, _, _] rfl Tryz.isAgg25 Tryz.sizeOf25 (H.hp.get 4 rfl) rfl rfl) ?_
      obtain ⟨z48_66, ez48_66, hS⟩ := bv hS
      refine f1 [46, 47] rfl rfl rfl rfl (fun w X => vB ez48_66 (v_aggne rfl rfl age25 (agq25 _ _ _ _ _ _))) ?_
      refine f1 [48] rfl rfl rfl rfl (fun w X => v_move rfl) ?_
      refine f_g [8, 49] rfl rfl rfl (gF rfl) rfl rfl (fun e0 w X => v_move rfl) ?_
      obtain ⟨y51_67, hy51_67, hS⟩ := bo hS
      refine f_gd (V := .int .i64 y51_67) [50, 49] rfl rfl rfl (gF rfl) rfl rfl (fun e0 w X => have H := H.ext X; d_call [_] (evs_c (eg e0 rfl) evs_n) Tryz.call16 (tree_Number_ok (x0 := z31_58) (ifT e0 hy51_67) (hG.ext H.out))) ?_
      obtain ⟨y52_68, hy52_68, hS⟩ := bo hS
      refine f_gd (V := .agg #[.int .i64 y52_68.k, .int .i64 y52_68.n, S y52_68.s]) [51, 49] rfl rfl rfl (gF rfl) rfl rfl (fun e0 w X => have H := H.ext X; d_call [_, _] (evs_c (eg e0 rfl) (evs_c rfl evs_n)) Tryz.call10 (funcs_Apply_ok (x0 := y51_67) (x1 := []) (ifT e0 hy52_68) RdN.nil (hG.ext H.out))) ?_
      obtain ⟨y53_69, hy53_69, hS⟩ := bo hS
      refine f_gd (V := .agg #[.int .i64 y53_69.k, .int .i64 y53_69.n, S y53_69.s]) [49] rfl rfl rfl (gF rfl) rfl rfl (fun e0 w X => d_call [_] rfl Tryz.call13 (value_Fail_ok (x0 := (2 : Int)) (ifT e0 hy53_69))) ?_
      obtain ⟨z54_70, ez54_70, hS⟩ := bv hS
      refine f_g [52, 53, 49] rfl rfl rfl (gF rfl) rfl rfl (fun e0 w X => vB ez54_70 (v_aggne (eg e0 rfl) (eg e0 rfl) age25 (agq25 _ _ _ _ _ _))) ?_
      obtain ⟨z55_71, ez55_71, hS⟩ := bv hS
      refine f1 [49, 54] rfl rfl rfl rfl (fun w X => vB ez55_71 (v_or rfl rfl)) ?_
      refine fn_ ?_
      intro a w X hR hA
      have h := hR.out [2, 3, 5, 6, 27, 28, 29, 55]
      have h : Fr 88 [(55, _), (29, _), (28, _), (27, _), (6, _), (5, _), (3, _), (2, _)] a := h
      have H := H.ext X
      refine c_cond h rfl (fun ec72 => ?_) (fun ec72 => ?_)
      ·
       have hS := ifT ec72 hS
       refine c_region fun K hK => ?_
       refine st1 h rfl rfl rfl (v_assign rfl) fun a h => ?_
       refine c_nil hK ?_
       have h := h.only [4] (l' := [_]) rfl
       obtain rfl := so hS
       refine c_ret (hret56 _ _ (out1 h rfl rfl ?_))
       exact ⟨rfl, H.out⟩
      ·
       have hS := ifF ec72 hS
       refine c_skip ?_
       refine hN56 _ _ ?_
       refine c_lregion ?_
       obtain ⟨z56_73, ez56_73, hS⟩ := bv hS
       refine st1 h rfl rfl rfl (vI ez56_73 (v_addw rfl rfl)) fun a h => ?_
       refine st1 h rfl rfl rfl (v_move rfl) fun a h => ?_
       refine c_lnil ?_
       exact hN52 _ _ _ (Nat.lt_succ_self _) ⟨_, z56_73, lpN en51 hS, (h.only [2, 3, 5, 6, 27, 28, 29] (l' := [_, _, _, _, _, _, _]) rfl), (H.keepN 4 rfl), r27_49⟩
     ·
      have hret60 := hO60.ret hret56
      have hx0_60 := hO60.exit (i := 0) rfl hx0_56
      have hx1_60 := hO60.exit (i := 1) rfl hx1_56
      refine c_region fun K hK => ?_
      refine st1 h rfl rfl rfl (v_fieldAddr rfl Tryz.underlying25 rfl Tryz.sizeOf3 rfl rfl) fun a h => ?_
      refine st1 h rfl rfl rfl (v_load1 rfl Tryz.isAgg3 (H.hp.get 2 rfl) rfl) fun a h => ?_
      obtain ⟨z36_74, ez36_74, hS⟩ := bv hS
      refine st1 h rfl rfl rfl (vB ez36_74 (v_ne rfl rfl)) fun a h => ?_
      refine c_nil hK ?_
      have h := h.only [2, 3, 5, 6, 8, 9, 27, 28, 29, 36] (l' := [_, _, _, _, _, _, _, _, _, _]) rfl
      refine c_cond h rfl (fun ec75 => ?_) (fun ec75 => ?_)
      ·
       have hS := ifT ec75 hS
       refine c_lregion ?_
       refine st1 h rfl rfl rfl (v_move rfl) fun a h => ?_
       refine st1 h rfl rfl rfl (v_fieldAddr rfl Tryz.underlying25 rfl Tryz.sizeOf2 rfl rfl) fun a h => ?_
       refine st1 h rfl rfl rfl (v_load1 rfl Tryz.isAgg2 (H.hp.get 2 rfl) rfl) fun a h => ?_
       obtain ⟨y40_76, hy40_76, hS⟩ := bo hS
       refine st2v (T := Ext) (V := .agg #[.int .i64 y40_76.k, .int .i64 y40_76.n, S y40_76.s]) h rfl rfl rfl (d_call [_, _] rfl Tryz.call15 (maths_One_ok (x0 := z31_58) (x1 := y24_14.n) hy40_76)) fun w X a h => ?_
       have H := H.ext X
       refine z_store h H 4 rfl rfl rfl Tryz.sizeOf25 [_, _, _] rfl rfl rfl (by simp) [_, _, _] rfl (hl' := [_, _, _, _, _]) rfl fun w H => ?_
       refine c_lnil ?_
       exact hN60 _ _ ⟨_, (y40_76.k, y40_76.n, y40_76.s), hS, (h.only [2, 3, 5, 6, 8, 9, 27, 28, 29] (l' := [_, _, _, _, _, _, _, _, _]) rfl), H, r27_49⟩
      ·
       have hS := ifF ec75 hS
       refine c_skip ?_
       exact hN60 _ _ ⟨_, (y24_14.k, y24_14.n, y24_14.s), hS, (h.only [2, 3, 5, 6, 8, 9, 27, 28, 29] (l' := [_, _, _, _, _, _, _, _, _]) rfl), H, r27_49⟩
    ·
     have hS := ifF ec55 hS
     refine c_exit ?_
     refine hx0_54 _ _ ?_
     exact hN18 _ _ ⟨_, (), hS, (h.only [2, 3, 5, 6] (l' := [_, _, _, _]) rfl), H⟩
end Go.Proofs.YtnmkeanoidadcaaGreatDoor
