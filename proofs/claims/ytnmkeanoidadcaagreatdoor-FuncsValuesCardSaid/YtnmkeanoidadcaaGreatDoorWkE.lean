/- Walks: the code computes what the partial functions say. -/
import Derived.Test.YtnmkeanoidadcaaGreatDoorSpE
import Derived.Test.YtnmkeanoidadcaaGreatDoorWkD
set_option linter.unusedSimpArgs false
set_option linter.unusedVariables false
set_option linter.unusedSectionVars false
namespace Go.Proofs.YtnmkeanoidadcaaGreatDoor
open Go.Stp Go.RowKit Go.ValP Go.Sp
set_option maxRecDepth 100000
theorem reckonerlaw12_FuncsValues_ok {x0 : Int} {x1 : List (V)} {x2 : Int} {res : Bool} {w0 : World} (hS : reckonerlaw12_FuncsValues x0 x1 x2 = some res) {xv1 : Value} (rp1 : RdZ (hz w0) xv1 3 vL x1) (hG : GW w0) : Calls Tryz.prog 3 [.int .i64 x0, xv1, .int .i64 x2].toArray w0 (Ret fun v w => v = .bool res ∧ Ext w0 w) := by
 refine enter Tryz.func3 rfl rfl rfl fun Q a h hret0 hnor => ?_
 obtain ⟨Zi, Z, H, rp1⟩ : ∃ Zi Z, HZ w0 Zi Z [] w0 ∧ RdZ Z xv1 3 vL x1 := ⟨_, _, HZ.start w0, rp1⟩
 have h := h.only [0, 1, 2] (l' := [_, _, _]) rfl
 unfold reckonerlaw12_FuncsValues at hS
 refine c_region fun K hK => ?_
 refine st1 h rfl rfl rfl (v_assign rfl) fun a h => ?_
 refine c_nil hK ?_
 refine c_seq _ (fun a w c => c) fun Q1 hN1 hO1 => ?_
 have hret1 := hO1.ret hret0
 refine c_region fun K hK => ?_
 obtain ⟨y16_2, hy16_2, hS⟩ := bo hS
 refine st2v (T := Ext) (V := .bool y16_2) h rfl rfl rfl (d_call [] rfl Tryz.call7 (reckonerlaw12_fit_ok  hy16_2 (hG.ext H.out))) fun w X a h => ?_
 have H := H.ext X
 obtain ⟨z17_3, ez17_3, hS⟩ := bv hS
 refine st1 h rfl rfl rfl (vB ez17_3 (v_not rfl)) fun a h => ?_
 refine c_nil hK ?_
 refine c_cond h rfl (fun ec4 => ?_) (fun ec4 => ?_)
 ·
  have hS := ifT ec4 hS
  refine c_region fun K hK => ?_
  refine st1 h rfl rfl rfl (v_assign rfl) fun a h => ?_
  refine c_nil hK ?_
  have h := h.only [6] (l' := [_]) rfl
  obtain rfl := so hS
  refine c_ret (hret1 _ _ (out1 h rfl rfl ?_))
  exact ⟨rfl, H.out⟩
 ·
  have hS := ifF ec4 hS
  refine c_skip ?_
  refine hN1 _ _ ?_
  refine c_region fun K hK => ?_
  refine st1 h rfl rfl rfl (v_move rfl) fun a h => ?_
  obtain ⟨z19_5, ez19_5, hS⟩ := bv hS
  refine st1 h rfl rfl rfl (vI ez19_5 (v_rem rfl rfl (by decide))) fun a h => ?_
  obtain ⟨z20_6, ez20_6, hS⟩ := bv hS
  refine st1 h rfl rfl rfl (vI ez20_6 (v_addw rfl rfl)) fun a h => ?_
  obtain ⟨z21_7, ez21_7, hS⟩ := bv hS
  refine st1 h rfl rfl rfl (vI ez21_7 (v_rem rfl rfl (by decide))) fun a h => ?_
  obtain ⟨z22_8, ez22_8, hS⟩ := bv hS
  refine st1 h rfl rfl rfl (vI ez22_8 (v_addw rfl rfl)) fun a h => ?_
  refine st1 h rfl rfl rfl (v_assign rfl) fun a h => ?_
  refine c_nil hK ?_
  have h := h.only [0, 1, 2] (l' := [_, _, _]) rfl
  refine c_seq _ (fun a w c => c) fun Q9 hN9 hO9 => ?_
  have hret9 := hO9.ret hret0
  refine c_region fun K hK => ?_
  refine st1 h rfl rfl rfl (v_move rfl) fun a h => ?_
  refine st1 h rfl rfl rfl (v_len Tryz.underlying22 rfl (rp1.at H.zin)) fun a h => ?_
  obtain ⟨z25_10, ez25_10, hS⟩ := bv hS
  refine st1 h rfl rfl rfl (vB ez25_10 (v_gt rfl rfl)) fun a h => ?_
  refine c_nil hK ?_
  refine c_cond h rfl (fun ec11 => ?_) (fun ec11 => ?_)
  ·
   have hS := ifT ec11 hS
   refine c_region fun K hK => ?_
   refine st1 h rfl rfl rfl (v_assign rfl) fun a h => ?_
   refine c_nil hK ?_
   have h := h.only [6] (l' := [_]) rfl
   obtain rfl := so hS
   refine c_ret (hret9 _ _ (out1 h rfl rfl ?_))
   exact ⟨rfl, H.out⟩
  ·
   have hS := ifF ec11 hS
   refine c_skip ?_
   refine hN9 _ _ ?_
   obtain ⟨J13, eJ13, hS⟩ := bv hS
   refine c_seq (fun a w => ∃ (Z : FZ) (s13 : Unit), J13 s13 = some res ∧ Fr 93 [(0, .int .i64 z22_8), (1, xv1), (2, .int .i64 x2)] a ∧ HZ w0 Zi Z [] w ∧ RdZ Z xv1 3 vL x1) ?_ fun Q12 hN12 hO12 => ?_
   ·
    rintro a w ⟨Z, s13, hS, h, H, rp1⟩
    subst eJ13
    refine c_region fun K hK => ?_
    refine st1 h rfl rfl rfl (v_assign rfl) fun a h => ?_
    refine c_nil hK ?_
    have H := H.nilRow 29 3 rfl
    have H : HZ w0 _ _ [_] _ := H
    have el0 : EL argEnc Z ([] : List (Cl 3)) ([] : List (Arg)) := trivial
    obtain ⟨J15, eJ15, hS⟩ := bv hS
    refine c_seq (fun a w => ∃ (Z : FZ) (s15 : (List (Arg))) (sv16 : Value) (cs16 : List (Cl 3)), J15 s15 = some res ∧ Fr 93 [(0, .int .i64 z22_8), (9, sv16)] a ∧ HZ w0 Zi Z [.row 29 3 sv16 cs16.length (cs16.flatMap Subtype.val)] w ∧ EL argEnc Z cs16 s15) ?_ fun Q14 hN14 hO14 => ?_
    ·
     rintro a w ⟨Z, s15, sv16, cs16, hS, h, H, el0⟩
     subst eJ15
     obtain ⟨Z, hsub, H, rz0_17⟩ := H.freezeRowN (E := argEnc) 0 rfl el0
     have H : HZ w0 _ _ [_] _ := H
     obtain ⟨J19, eJ19, hS⟩ := bv hS
     refine c_seq (fun a w => ∃ (Z : FZ) (s19 : Unit), J19 s19 = some res ∧ Fr 93 [] a ∧ HZ w0 Zi Z [.row 29 3 (.slice none 0 0) 0 []] w) ?_ fun Q18 hN18 hO18 => ?_
     ·
      rintro a w ⟨Z, s19, hS, h, H⟩
      subst eJ19
      refine c_region fun K hK => ?_
      refine st1 h rfl rfl rfl (v_assign rfl) fun a h => ?_
      refine c_nil hK ?_
      obtain rfl := so hS
      refine c_ret (hret0 _ _ (out1 h rfl rfl ?_))
      exact ⟨rfl, H.out⟩
     ·
      have hret18 := hO18.ret hret0
      refine c_region fun K hK => ?_
      refine st1 h rfl rfl rfl (v_move rfl) fun a h => ?_
      refine st1 h rfl rfl rfl (v_lenN Tryz.underlying27 rfl rz0_17 H.zin) fun a h => ?_
      obtain ⟨z67_20, ez67_20, hS⟩ := bv hS
      refine st1 h rfl rfl rfl (vI ez67_20 (v_addw rfl rfl)) fun a h => ?_
      refine st1 h rfl rfl rfl (v_move rfl) fun a h => ?_
      refine c_nil hK ?_
      refine c_lblock fun Q21 hN21 hx4_21 hO21 => ?_
      have hret21 := hO21.ret hret18
      obtain ⟨B22, eB22, hS⟩ := bv hS
      refine c_loopN (fun mu_ a w => ∃ (Z : FZ) (s22 : Int), loopF B22 mu_ s22 = some res ∧ Fr 93 [(0, .int .i64 z22_8), (9, sv16), (67, .int .i64 z67_20), (68, .int .i64 s22)] a ∧ HZ w0 Zi Z [.row 29 3 (.slice none 0 0) 0 []] w ∧ RdN Z sv16 argEnc s15) KK ⟨_, 0, hS, (h.only [0, 9, 67, 68] (l' := [_, _, _, _]) rfl), H, rz0_17⟩ ?_
      rintro mu_ a w ⟨Z, s22, hS, h, H, rz0_17⟩ Q23 hN23 hO23
      obtain ⟨mu_, rfl, n22, en22, hS⟩ := lpX eB22 hS
      have hret23 := hO23.ret hret21
      have hx4_23 := hO23.exit (i := 4) rfl hx4_21
      refine c_region fun K hK => ?_
      obtain ⟨z69_24, ez69_24, hS⟩ := bv hS
      refine st1 h rfl rfl rfl (vB ez69_24 (v_lt rfl rfl)) fun a h => ?_
      refine c_nil hK ?_
      refine c_seq _ (fun a w c => c) fun Q25 hN25 hO25 => ?_
      have hret25 := hO25.ret hret23
      have hx4_25 := hO25.exit (i := 4) rfl hx4_23
      refine c_cond h rfl (fun ec26 => ?_) (fun ec26 => ?_)
      ·
       have hS := ifT ec26 hS
       refine c_skip ?_
       refine hN25 _ _ ?_
       refine c_block _ (fun a w c => c) fun Q27 hN27 hx5_27 hO27 => ?_
       have hret27 := hO27.ret hret23
       have hx4_27 := hO27.exit (i := 4) rfl hx4_23
       refine c_region fun K hK => ?_
       refine st1 h rfl rfl rfl (v_move rfl) fun a h => ?_
       refine st1 h rfl rfl rfl (v_assign rfl) fun a h => ?_
       refine c_nil hK ?_
       refine c_seq _ (fun a w c => c) fun Q28 hN28 hO28 => ?_
       have hret28 := hO28.ret hret27
       have hx4_28 := hO28.exit (i := 4) rfl hx4_27
       have hx5_28 := hO28.exit (i := 5) rfl hx5_27
       refine c_region fun K hK => ?_
       refine st1 h rfl rfl rfl (v_move rfl) fun a h => ?_
       obtain ⟨z72_29, ez72_29, hS⟩ := bv hS
       refine st1 h rfl rfl rfl (vB ez72_29 (v_gt rfl rfl)) fun a h => ?_
       refine c_nil hK ?_
       refine c_cond h rfl (fun ec30 => ?_) (fun ec30 => ?_)
       ·
        have hS := ifT ec30 hS
        refine c_exit ?_
        refine hx4_28 _ _ ?_
        exact hN18 _ _ ⟨_, (), hS, (h.only [] (l' := []) rfl), H⟩
       ·
        have hS := ifF ec30 hS
        refine c_skip ?_
        refine hN28 _ _ ?_
        have h := h.only [0, 9, 14, 67, 68] (l' := [_, _, _, _, _]) rfl
        refine c_region fun K hK => ?_
        refine st1 h rfl rfl rfl (v_move rfl) fun a h => ?_
        refine st1 h rfl rfl rfl (v_move rfl) fun a h => ?_
        refine st1 h rfl rfl rfl (v_move rfl) fun a h => ?_
        obtain ⟨c31, hS⟩ := ck hS
        obtain ⟨z76_32, ez76_32, hS⟩ := bv hS
        refine z_partN_h (E := argEnc) h Tryz.underlying27 Tryz.sizeOf29 rfl rfl rz0_17 c31 rfl fun a v76_33 r76_33 h => ?_
        rw [← ez76_32] at r76_33
        obtain ⟨y77_34, hy77_34, hS⟩ := bo hS
        refine st2v (T := Ext) (V := .agg #[.int .i64 y77_34.k, .int .i64 y77_34.n, S y77_34.s]) h rfl rfl rfl (d_call [_, _] rfl Tryz.call10 (funcs_Apply_ok (x0 := z22_8) (x1 := z76_32) hy77_34 (r76_33.hz H.zin) (hG.ext H.out))) fun w X a h => ?_
        have H := H.ext X
        refine z_alloc h H Tryz.zeroValue25 [_, _, _] rfl rfl fun a p15_35 w X H h => ?_
        have H : HZ w0 _ _ [_, _] _ := H
        refine z_store h H 1 rfl rfl rfl Tryz.sizeOf25 [_, _, _] rfl rfl rfl (by simp) [_, _, _] rfl (hl' := [_, _]) rfl fun w H => ?_
        refine c_nil hK ?_
        have h := h.only [0, 9, 14, 15, 67, 68] (l' := [_, _, _, _, _, _]) rfl
        refine c_flow h (by kernel_rfl) (by kernel_rfl) ?_
        refine f1 [15] rfl rfl rfl rfl (fun w X => have H := H.ext X; v_loadA [_, _, _] rfl Tryz.isAgg25 Tryz.sizeOf25 (H.hp.get 1 rfl) rfl rfl) ?_
        obtain ⟨y79_36, hy79_36, hS⟩ := bo hS
        refine f2 (V := .bool y79_36) [78] rfl rfl rfl rfl (fun w X => d_call [_] rfl Tryz.call11 (value_Right_ok (x0 := y77_34) hy79_36)) ?_
        obtain ⟨z80_37, ez80_37, hS⟩ := bv hS
        refine f1 [79] rfl rfl rfl rfl (fun w X => vB ez80_37 (v_not rfl)) ?_
        refine f1 [80] rfl rfl rfl rfl (fun w X => v_move rfl) ?_
        refine f_g [0, 81] rfl rfl rfl (gF rfl) rfl rfl (fun e0 w X => v_move rfl) ?_
        refine f_g [14, 81] rfl rfl rfl (gF rfl) rfl rfl (fun e0 w X => v_move rfl) ?_
        obtain ⟨y84_38, hy84_38, hS⟩ := bo hS
        refine f_gd (V := .bool y84_38) [82, 83, 81] rfl rfl rfl (gF rfl) rfl rfl (fun e0 w X => have H := H.ext X; d_call [_, _] (evs_c (eg e0 rfl) (evs_c (eg e0 rfl) evs_n)) Tryz.call12 (tree_Fits_ok (x0 := z22_8) (x1 := s22) (ifT e0 hy84_38) (hG.ext H.out))) ?_
        obtain ⟨z85_39, ez85_39, hS⟩ := bv hS
        refine f_g [84, 81] rfl rfl rfl (gF rfl) rfl rfl (fun e0 w X => vB ez85_39 (v_not (eg e0 rfl))) ?_
        refine f_g [85, 81] rfl rfl rfl (gF rfl) rfl rfl (fun e0 w X => v_move (eg e0 rfl)) ?_
        refine f_g [15, 86] rfl rfl rfl (ggT rfl) rfl rfl (fun e0 w X => have H := H.ext X; v_loadA [_, _, _] rfl Tryz.isAgg25 Tryz.sizeOf25 (H.hp.get 1 rfl) rfl rfl) ?_
        obtain ⟨y88_40, hy88_40, hS⟩ := bo hS
        refine f_gd (V := .agg #[.int .i64 y88_40.k, .int .i64 y88_40.n, S y88_40.s]) [86] rfl rfl rfl (ggT rfl) rfl rfl (fun e0 w X => d_call [_] rfl Tryz.call13 (value_Fail_ok (x0 := (2 : Int)) (ifT e0 hy88_40))) ?_
        obtain ⟨z89_41, ez89_41, hS⟩ := bv hS
        refine f_g [87, 88, 86] rfl rfl rfl (ggT rfl) rfl rfl (fun e0 w X => vB ez89_41 (v_aggne (eg e0 rfl) (eg e0 rfl) age25 (agq25 _ _ _ _ _ _))) ?_
        obtain ⟨z90_42, ez90_42, hS⟩ := bv hS
        refine f_g [86, 89, 81] rfl rfl rfl (gF rfl) rfl rfl (fun e0 w X => vB ez90_42 (v_and (eg e0 rfl) (egn e0 rfl))) ?_
        obtain ⟨z91_43, ez91_43, hS⟩ := bv hS
        refine f1 [81, 90] rfl rfl rfl rfl (fun w X => vB ez91_43 (v_or rfl rfl)) ?_
        refine fn_ ?_
        intro a w X hR hA
        have h := hR.out [0, 9, 67, 68, 91]
        have h : Fr 93 [(91, _), (68, _), (67, _), (9, _), (0, _)] a := h
        have H := H.ext X
        refine c_cond h rfl (fun ec44 => ?_) (fun ec44 => ?_)
        ·
         have hS := ifT ec44 hS
         refine c_region fun K hK => ?_
         refine st1 h rfl rfl rfl (v_assign rfl) fun a h => ?_
         refine c_nil hK ?_
         have h := h.only [6] (l' := [_]) rfl
         obtain rfl := so hS
         refine c_ret (hret27 _ _ (out1 h rfl rfl ?_))
         exact ⟨rfl, H.out⟩
        ·
         have hS := ifF ec44 hS
         refine c_skip ?_
         refine hN27 _ _ ?_
         refine c_lregion ?_
         obtain ⟨z92_45, ez92_45, hS⟩ := bv hS
         refine st1 h rfl rfl rfl (vI ez92_45 (v_addw rfl rfl)) fun a h => ?_
         refine st1 h rfl rfl rfl (v_move rfl) fun a h => ?_
         refine c_lnil ?_
         exact hN23 _ _ _ (Nat.lt_succ_self _) ⟨_, z92_45, lpN en22 hS, (h.only [0, 9, 67, 68] (l' := [_, _, _, _]) rfl), (H.keepN 1 rfl), rz0_17⟩
      ·
       have hS := ifF ec26 hS
       refine c_exit ?_
       refine hx4_25 _ _ ?_
       exact hN18 _ _ ⟨_, (), hS, (h.only [] (l' := []) rfl), H⟩
    ·
     have hret14 := hO14.ret hret0
     refine c_region fun K hK => ?_
     refine st1 h rfl rfl rfl (v_move rfl) fun a h => ?_
     refine st1 h rfl rfl rfl (v_len Tryz.underlying22 rfl (rp1.at H.zin)) fun a h => ?_
     refine st1 h rfl rfl rfl (v_move rfl) fun a h => ?_
     refine c_nil hK ?_
     refine c_lblock fun Q46 hN46 hx2_46 hO46 => ?_
     have hret46 := hO46.ret hret14
     obtain ⟨B47, eB47, hS⟩ := bv hS
     refine c_loopN (fun mu_ a w => ∃ (Z : FZ) (s47 : Int × (List (Arg))) (sv49 : Value) (cs49 : List (Cl 3)), loopF B47 mu_ s47 = some res ∧ Fr 93 [(0, .int .i64 z22_8), (1, xv1), (2, .int .i64 x2), (9, sv49), (36, xv1), (37, .int .i64 (x1.length : Int)), (38, .int .i64 s47.1)] a ∧ HZ w0 Zi Z [.row 29 3 sv49 cs49.length (cs49.flatMap Subtype.val)] w ∧ EL argEnc Z cs49 s47.2 ∧ RdZ Z xv1 3 vL x1) KK ⟨_, (0, ([] : List (Arg))), _, _, hS, (h.only [0, 1, 2, 9, 36, 37, 38] (l' := [_, _, _, _, _, _, _]) rfl), H, el0, rp1⟩ ?_
     rintro mu_ a w ⟨Z, s47, sv49, cs49, hS, h, H, el0, rp1⟩ Q48 hN48 hO48
     obtain ⟨mu_, rfl, n47, en47, hS⟩ := lpX eB47 hS
     have hret48 := hO48.ret hret46
     have hx2_48 := hO48.exit (i := 2) rfl hx2_46
     refine c_region fun K hK => ?_
     obtain ⟨z39_50, ez39_50, hS⟩ := bv hS
     refine st1 h rfl rfl rfl (vB ez39_50 (v_lt rfl rfl)) fun a h => ?_
     refine c_nil hK ?_
     refine c_seq _ (fun a w c => c) fun Q51 hN51 hO51 => ?_
     have hret51 := hO51.ret hret48
     have hx2_51 := hO51.exit (i := 2) rfl hx2_48
     refine c_cond h rfl (fun ec52 => ?_) (fun ec52 => ?_)
     ·
      have hS := ifT ec52 hS
      refine c_skip ?_
      refine hN51 _ _ ?_
      refine c_block _ (fun a w c => c) fun Q53 hN53 hx3_53 hO53 => ?_
      have hret53 := hO53.ret hret48
      have hx2_53 := hO53.exit (i := 2) rfl hx2_48
      refine c_region fun K hK => ?_
      refine st1 h rfl rfl rfl (v_move rfl) fun a h => ?_
      obtain ⟨c54, hS⟩ := ck hS
      obtain ⟨z41_55, ez41_55, hS⟩ := bv hS
      refine st_idx h Tryz.underlying22 Tryz.sizeOf25 rfl rfl (rp1.at H.zin) (fun _ => rfl) z41_55 c54.1 (by rw [ez41_55]; exact gel_some c54) rfl fun a v41 A41 h => ?_
      refine st1 h rfl rfl rfl (v_loadAtA [_, _, _] rfl A41 Tryz.isAgg25 Tryz.sizeOf25 rfl rfl) fun a h => ?_
      refine z_alloc h H Tryz.zeroValue25 [_, _, _] rfl rfl fun a p11_56 w X H h => ?_
      have A41 := At.ext A41 X
      have H : HZ w0 _ _ [_, _] _ := H
      refine st1 h rfl rfl rfl (v_assign rfl) fun a h => ?_
      refine z_store h H 1 rfl rfl rfl Tryz.sizeOf25 [_, _, _] rfl rfl rfl (by simp) [_, _, _] rfl (hl' := [_, _]) rfl fun w H => ?_
      refine c_nil hK ?_
      refine c_region fun K hK => ?_
      refine st1 h rfl rfl rfl (v_loadA [_, _, _] rfl Tryz.isAgg25 Tryz.sizeOf25 (H.hp.get 1 rfl) rfl rfl) fun a h => ?_
      obtain ⟨y44_57, hy44_57, hS⟩ := bo hS
      refine st2 h rfl rfl rfl (d_call [_] rfl Tryz.call9 (funcs_Of_ok (x0 := z41_55) hy44_57 H.zin)) ?_
      rintro v_ w ⟨v44_58_1, rfl, r44_58_1, X⟩ a h
      obtain ⟨Z, hsub, hadd, H⟩ := H.adopt' X
      have el0 := el0.sub hsub
      have rp1 := rp1.sub hsub
      have r44_58_1 := r44_58_1.sub hadd
      refine z_alloc h H Tryz.zeroValue29 [_, _, _] rfl rfl fun a p12_59 w X H h => ?_
      have H : HZ w0 _ _ [_, _, _] _ := H
      refine z_store h H 2 rfl rfl rfl Tryz.sizeOf29 [_, _, _] rfl rfl (by obtain ⟨_, _, _, e_⟩ := (r44_58_1).form; subst e_; rfl) (by simp) [_, _, _] rfl (hl' := [_, _, _]) rfl fun w H => ?_
      refine c_nil hK ?_
      have h := h.only [0, 1, 2, 9, 10, 12, 36, 37, 38] (l' := [_, _, _, _, _, _, _, _, _]) rfl
      obtain ⟨J61, eJ61, hS⟩ := bv hS
      refine c_seq (fun a w => ∃ (Z : FZ) (s61 : Bool × Int × (List (V))) (v2_2_62 : Value), J61 s61 = some res ∧ Fr 93 [(0, .int .i64 z22_8), (1, xv1), (2, .int .i64 x2), (9, sv49), (12, .pointer (some ⟨p12_59, 0, none⟩)), (36, xv1), (37, .int .i64 (x1.length : Int)), (38, .int .i64 s47.1)] a ∧ HZ w0 Zi Z [.row 29 3 sv49 cs49.length (cs49.flatMap Subtype.val), .blk p11_56 (Cel [.int .i64 z41_55.k, .int .i64 z41_55.n, S z41_55.s] 25), .blk p12_59 (Cel [.bool s61.1, .int .i64 s61.2.1, v2_2_62] 29)] w ∧ RdZ Z v2_2_62 3 vL s61.2.2 ∧ EL argEnc Z cs49 s47.2 ∧ RdZ Z xv1 3 vL x1) ?_ fun Q60 hN60 hO60 => ?_
      ·
       rintro a w ⟨Z, s61, v2_2_62, hS, h, H, r2_2_62, el0, rp1⟩
       subst eJ61
       refine c_lregion ?_
       refine st1 h rfl rfl rfl (v_move rfl) fun a h => ?_
       refine st1 h rfl rfl rfl (v_loadA [_, _, _] rfl Tryz.isAgg29 Tryz.sizeOf29 (H.hp.get 2 rfl) rfl rfl) fun a h => ?_
       refine z_slice (enc := (Subtype.val (p := fun l : List Value => l.length = 3))) ([⟨[.bool s61.1, .int .i64 s61.2.1, v2_2_62], rfl⟩] : List (Cl 3)) h H Tryz.underlying27 Tryz.sizeOf29 Tryz.zeroValue29 rfl (zl := [.bool false, .int .i64 0, .slice none 0 0]) (by kernel_rfl) (plA_get 1 3) [_] [_, _, _] rfl rfl rfl rfl rfl fun a v62_63 Z w hsub X H r62_63 h => ?_
       have el0 := el0.sub hsub
       have r2_2_62 := r2_2_62.sub hsub
       have rp1 := rp1.sub hsub
       have r62_63 : RdN Z v62_63 argEnc [(⟨s61.1, s61.2.1, s61.2.2⟩ : Arg)] := ⟨_, r62_63, ⟨⟨_, rfl, r2_2_62⟩, trivial⟩⟩
       obtain ⟨c65, hS⟩ := ck hS
       obtain ⟨z63_66, ez63_66, hS⟩ := bv hS
       obtain ⟨cy_64, ry_64, ey_64⟩ := r62_63
       refine z_appendS (enc := (Subtype.val (p := fun l : List Value => l.length = 3))) (out := cs49) (data := cy_64) h H 0 rfl Tryz.underlying27 app29 rfl rfl rfl ry_64 (fun c => c.2) ey_64.one (bnd el0.len ey_64.len c65) rfl fun a v63_64 w H h => ?_
       have el0 := EL.append el0 ey_64
       rw [← ez63_66] at el0
       have el0 : EL argEnc Z (List.append (α := Cl 3) cs49 cy_64) z63_66 := el0
       have H : HZ w0 _ _ [_, _, _] _ := H
       refine st1 h rfl rfl rfl (v_assign rfl) fun a h => ?_
       refine c_lnil ?_
       refine hN53 _ _ ?_
       have h := h.only [0, 1, 2, 9, 36, 37, 38] (l' := [_, _, _, _, _, _, _]) rfl
       refine c_lregion ?_
       obtain ⟨z64_67, ez64_67, hS⟩ := bv hS
       refine st1 h rfl rfl rfl (vI ez64_67 (v_addw rfl rfl)) fun a h => ?_
       refine st1 h rfl rfl rfl (v_move rfl) fun a h => ?_
       refine c_lnil ?_
       exact hN48 _ _ _ (Nat.lt_succ_self _) ⟨_, (z64_67, z63_66), _, _, lpN en47 hS, (h.only [0, 1, 2, 9, 36, 37, 38] (l' := [_, _, _, _, _, _, _]) rfl), (H.keepN 1 rfl), el0, rp1⟩
      ·
       have hret60 := hO60.ret hret53
       have hx2_60 := hO60.exit (i := 2) rfl hx2_53
       have hx3_60 := hO60.exit (i := 3) rfl hx3_53
       refine c_region fun K hK => ?_
       refine st1 h rfl rfl rfl (v_move rfl) fun a h => ?_
       obtain ⟨z46_68, ez46_68, hS⟩ := bv hS
       refine st1 h rfl rfl rfl (vI ez46_68 (v_bits_and rfl rfl)) fun a h => ?_
       obtain ⟨z47_69, ez47_69, hS⟩ := bv hS
       refine st1 h rfl rfl rfl (vB ez47_69 (v_eq rfl rfl)) fun a h => ?_
       refine c_nil hK ?_
       refine c_cond h rfl (fun ec70 => ?_) (fun ec70 => ?_)
       ·
        have hS := ifT ec70 hS
        refine c_region fun K hK => ?_
        refine st1 h rfl rfl rfl (v_move rfl) fun a h => ?_
        obtain ⟨z49_71, ez49_71, hS⟩ := bv hS
        refine st1 h rfl rfl rfl (vI ez49_71 (v_bits_and rfl rfl)) fun a h => ?_
        obtain ⟨z50_72, ez50_72, hS⟩ := bv hS
        refine st1 h rfl rfl rfl (vI ez50_72 (v_addw rfl rfl)) fun a h => ?_
        refine st1 h rfl rfl rfl (v_assign rfl) fun a h => ?_
        refine c_nil hK ?_
        have h := h.only [0, 1, 2, 9, 10, 12, 13, 36, 37, 38] (l' := [_, _, _, _, _, _, _, _, _, _]) rfl
        refine c_lregion ?_
        refine st1 h rfl rfl rfl (v_move rfl) fun a h => ?_
        refine st1 h rfl rfl rfl (v_move rfl) fun a h => ?_
        refine st1 h rfl rfl rfl (v_move rfl) fun a h => ?_
        refine st1 h rfl rfl rfl (v_move rfl) fun a h => ?_
        obtain ⟨c73, hS⟩ := ck hS
        obtain ⟨z55_74, ez55_74, hS⟩ := bv hS
        refine st1 h rfl rfl rfl (vI ez55_74 (v_quow rfl rfl c73)) fun a h => ?_
        refine st1 h rfl rfl rfl (v_move rfl) fun a h => ?_
        obtain ⟨z57_75, ez57_75, hS⟩ := bv hS
        refine st1 h rfl rfl rfl (vI ez57_75 (v_mulw rfl rfl)) fun a h => ?_
        obtain ⟨c76, hS⟩ := ck hS
        obtain ⟨z58_77, ez58_77, hS⟩ := bv hS
        refine z_part_h (enc := vL) (sz := 3) (fun _ => rfl) h Tryz.underlying22 Tryz.sizeOf25 rfl rfl rp1 c76 rfl fun a v58_78 r58_78 h => ?_
        rw [← ez58_77] at r58_78
        refine st1 h rfl rfl rfl (v_build bld29 [.bool true, .int .i64 z50_72, v58_78] [.bool true, .int .i64 z50_72, v58_78] rfl (by obtain ⟨_, _, _, e_⟩ := (r58_78).form; subst e_; rfl)) fun a h => ?_
        refine z_store h H 2 rfl rfl rfl Tryz.sizeOf29 [_, _, _] rfl rfl (by obtain ⟨_, _, _, e_⟩ := (r58_78).form; subst e_; rfl) (by simp) [_, _, _] rfl (hl' := [_, _, _]) rfl fun w H => ?_
        refine c_lnil ?_
        exact hN60 _ _ ⟨_, (true, z50_72, z58_77), _, hS, (h.only [0, 1, 2, 9, 12, 36, 37, 38] (l' := [_, _, _, _, _, _, _, _]) rfl), H, r58_78, el0, rp1⟩
       ·
        have hS := ifF ec70 hS
        refine c_skip ?_
        exact hN60 _ _ ⟨_, (y44_57.area, y44_57.cols, y44_57.l), _, hS, (h.only [0, 1, 2, 9, 12, 36, 37, 38] (l' := [_, _, _, _, _, _, _, _]) rfl), H, r44_58_1, el0, rp1⟩
     ·
      have hS := ifF ec52 hS
      refine c_exit ?_
      refine hx2_51 _ _ ?_
      exact hN14 _ _ ⟨_, s47.2, _, _, hS, (h.only [0, 9] (l' := [_, _]) rfl), H, el0⟩
   ·
    have hret12 := hO12.ret hret0
    refine c_region fun K hK => ?_
    refine st1 h rfl rfl rfl (v_move rfl) fun a h => ?_
    refine st1 h rfl rfl rfl (v_len Tryz.underlying22 rfl (rp1.at H.zin)) fun a h => ?_
    refine st1 h rfl rfl rfl (v_move rfl) fun a h => ?_
    refine c_nil hK ?_
    refine c_lblock fun Q79 hN79 hx0_79 hO79 => ?_
    have hret79 := hO79.ret hret12
    obtain ⟨B80, eB80, hS⟩ := bv hS
    refine c_loopN (fun mu_ a w => ∃ (Z : FZ) (s80 : Int), loopF B80 mu_ s80 = some res ∧ Fr 93 [(0, .int .i64 z22_8), (1, xv1), (2, .int .i64 x2), (26, xv1), (27, .int .i64 (x1.length : Int)), (28, .int .i64 s80)] a ∧ HZ w0 Zi Z [] w ∧ RdZ Z xv1 3 vL x1) KK ⟨_, 0, hS, (h.only [0, 1, 2, 26, 27, 28] (l' := [_, _, _, _, _, _]) rfl), H, rp1⟩ ?_
    rintro mu_ a w ⟨Z, s80, hS, h, H, rp1⟩ Q81 hN81 hO81
    obtain ⟨mu_, rfl, n80, en80, hS⟩ := lpX eB80 hS
    have hret81 := hO81.ret hret79
    have hx0_81 := hO81.exit (i := 0) rfl hx0_79
    refine c_region fun K hK => ?_
    obtain ⟨z29_82, ez29_82, hS⟩ := bv hS
    refine st1 h rfl rfl rfl (vB ez29_82 (v_lt rfl rfl)) fun a h => ?_
    refine c_nil hK ?_
    refine c_seq _ (fun a w c => c) fun Q83 hN83 hO83 => ?_
    have hret83 := hO83.ret hret81
    have hx0_83 := hO83.exit (i := 0) rfl hx0_81
    refine c_cond h rfl (fun ec84 => ?_) (fun ec84 => ?_)
    ·
     have hS := ifT ec84 hS
     refine c_skip ?_
     refine hN83 _ _ ?_
     refine c_block _ (fun a w c => c) fun Q85 hN85 hx1_85 hO85 => ?_
     have hret85 := hO85.ret hret81
     have hx0_85 := hO85.exit (i := 0) rfl hx0_81
     refine c_region fun K hK => ?_
     obtain ⟨c86, hS⟩ := ck hS
     obtain ⟨z30_87, ez30_87, hS⟩ := bv hS
     refine st_idx h Tryz.underlying22 Tryz.sizeOf25 rfl rfl (rp1.at H.zin) (fun _ => rfl) z30_87 c86.1 (by rw [ez30_87]; exact gel_some c86) rfl fun a v30 A30 h => ?_
     refine st1 h rfl rfl rfl (v_loadAtA [_, _, _] rfl A30 Tryz.isAgg25 Tryz.sizeOf25 rfl rfl) fun a h => ?_
     refine z_alloc h H Tryz.zeroValue25 [_, _, _] rfl rfl fun a p8_88 w X H h => ?_
     have A30 := At.ext A30 X
     have H : HZ w0 _ _ [_] _ := H
     refine z_store h H 0 rfl rfl rfl Tryz.sizeOf25 [_, _, _] rfl rfl rfl (by simp) [_, _, _] rfl (hl' := [_]) rfl fun w H => ?_
     refine c_nil hK ?_
     refine c_region fun K hK => ?_
     refine st1 h rfl rfl rfl (v_loadA [_, _, _] rfl Tryz.isAgg25 Tryz.sizeOf25 (H.hp.get 0 rfl) rfl rfl) fun a h => ?_
     obtain ⟨y33_89, hy33_89, hS⟩ := bo hS
     refine st2v (T := Ext) (V := .bool y33_89) h rfl rfl rfl (d_call [_] rfl Tryz.call8 (reckonerlaw12_good_ok (x0 := z30_87) hy33_89)) fun w X a h => ?_
     have H := H.ext X
     obtain ⟨z34_90, ez34_90, hS⟩ := bv hS
     refine st1 h rfl rfl rfl (vB ez34_90 (v_not rfl)) fun a h => ?_
     refine c_nil hK ?_
     have h := h.only [0, 1, 2, 26, 27, 28, 34] (l' := [_, _, _, _, _, _, _]) rfl
     refine c_cond h rfl (fun ec91 => ?_) (fun ec91 => ?_)
     ·
      have hS := ifT ec91 hS
      refine c_region fun K hK => ?_
      refine st1 h rfl rfl rfl (v_assign rfl) fun a h => ?_
      refine c_nil hK ?_
      have h := h.only [6] (l' := [_]) rfl
      obtain rfl := so hS
      refine c_ret (hret85 _ _ (out1 h rfl rfl ?_))
      exact ⟨rfl, H.out⟩
     ·
      have hS := ifF ec91 hS
      refine c_skip ?_
      refine hN85 _ _ ?_
      refine c_lregion ?_
      obtain ⟨z35_92, ez35_92, hS⟩ := bv hS
      refine st1 h rfl rfl rfl (vI ez35_92 (v_addw rfl rfl)) fun a h => ?_
      refine st1 h rfl rfl rfl (v_move rfl) fun a h => ?_
      refine c_lnil ?_
      exact hN81 _ _ _ (Nat.lt_succ_self _) ⟨_, z35_92, lpN en80 hS, (h.only [0, 1, 2, 26, 27, 28] (l' := [_, _, _, _, _, _]) rfl), (H.keepN 0 rfl), rp1⟩
    ·
     have hS := ifF ec84 hS
     refine c_exit ?_
     refine hx0_83 _ _ ?_
     exact hN12 _ _ ⟨_, (), hS, (h.only [0, 1, 2] (l' := [_, _, _]) rfl), H, rp1⟩
end Go.Proofs.YtnmkeanoidadcaaGreatDoor
