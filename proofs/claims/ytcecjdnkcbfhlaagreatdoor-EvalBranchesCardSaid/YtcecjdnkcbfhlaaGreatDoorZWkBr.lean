/- Joined texts. -/
import Derived.Test.YtcecjdnkcbfhlaaGreatDoorZL1
import Derived.Test.YtcecjdnkcbfhlaaGreatDoorZM0
import Derived.Test.YtcecjdnkcbfhlaaGreatDoorZU0
import Derived.Test.YtcecjdnkcbfhlaaGreatDoorZWkOr
set_option linter.unusedSimpArgs false
set_option linter.unusedVariables false
set_option linter.unusedSectionVars false
namespace Go.Proofs.YtcecjdnkcbfhlaaGreatDoor
open Go.Stp Go.RowKit Go.ValP Go.Sp _root_.Go.Proofs.Tryz
set_option maxRecDepth 100000
set_option maxHeartbeats 2000000
theorem reckonerlaw13_EvalBranches_1_ok {x0 : Nd} {x1 : List V} {res : Rs} {w0 : World} (hS : reckonerlaw13_EvalBranches_1 x0 x1 = some res) {Z : FZ} (hZ : Z.inn w0) {xv0 : Value} (rp0 : RdN Z xv0 nodeEnc x0.l) {pc1 pb1 : Nat} (hc1 : Z pc1 = some (Cel [(pt pb1)] 35)) (hp1 : Z pb1 = some (Cel ((x1 : List V).flatMap vL) 39)) (lp1 : x1.length = 128) (hG : GW w0) : Calls Tryz.prog 29 [(nA x0 xv0), (pt pc1)].toArray w0 (Ret fun v w => ∃ u1, v = .agg #[.int .i64 res.v.k, .int .i64 res.v.n, S res.v.s, .int .i64 res.c.s, .int .i64 res.c.c, .int .i64 res.c.r, u1] ∧ RdZ (ZB Z0 w0.heap.size w) u1 3 cL res.l ∧ Ext w0 w) := by
 refine enS hZ func29 [0, 1] O2 fun Q a Zi eZi H h hr => ?_
 try rw [← eZi] at hr
 clear eZi
 unfold reckonerlaw13_EvalBranches_1 at hS
 refine rg fun K k => z_box h H rfl O17 rfl rfl fun a p1 w X H h => ?_
 have H : HZ w0 _ _ [_] _ := H
 refine zA h H V51 O7 (fun x => [_, x]) fun a p2 w X H h => ?_
 refine cz k <| rg fun K k => s1 h rfl (lA H 0 A33 Z33 O17) fun a h => ?_
 refine s1 h rfl (v_build bld28 [_] O3 rfl rfl) fun a h => ?_
 refine s1 h rfl (v_load1 rfl isAgg35 (H.zin _ _ hc1) rfl) fun a h => ?_
 refine s1 h rfl (v_mkIface mkI rfl) fun a h => ?_
 obtain ⟨y3, f3, hS⟩ := bo hS
 refine st2 h rfl rfl rfl (dC call19 (eval_Eval_ok f3 H.zin rp0 hp1 lp1 (hG.ext H.out))) ?_
 rintro v_ w ⟨v8_4_1, rfl, r8_4_1, X⟩ a h
 obtain ⟨Z, hsub, hadd, nw_, H⟩ := H.adoptN X
 have rp0 := rp0.sub hsub
 have hc1 := hsub _ _ hc1
 have hp1 := hsub _ _ hp1
 have nr8_4_1 := nw_ r8_4_1
 have r8_4_1 := r8_4_1.sub (ZB.empty.trans hadd)
 refine z_store h H 1 rfl rfl rfl Z51 O7 rfl rfl (by obtain ⟨_, _, _, e_⟩ := (r8_4_1).form; subst e_; rfl) (by simp) O7 rfl (hl' := O2) rfl fun w H => ?_
 refine cN k h [3] [_] fun h => ?_
 cases hS
 refine r1 hr h rfl (rvA H 1 A51 Z51 O7) ⟨_, rfl, nr8_4_1.out H, H.out⟩
theorem reckonerlaw13_EvalBranches_2_ok {x0 : Rs} {x1 : List (Rs)} {res : Bool} {w0 : World} (hS : reckonerlaw13_EvalBranches_2 x0 x1 = some res) {xv0 : Value} (rp0 : RdZ (hz w0) xv0 3 cL x0.l) {xv1 : Value} (rp1 : RdN (hz w0) xv1 rsEnc x1) : Calls Tryz.prog 30 [.agg #[.int .i64 x0.v.k, .int .i64 x0.v.n, S x0.v.s, .int .i64 x0.c.s, .int .i64 x0.c.c, .int .i64 x0.c.r, xv0], xv1].toArray w0 (Ret fun v w => v = .bool res ∧ Ext w0 w) := by
 refine en func30 [0, 1] O2 fun Q a Zi Z hzs H h hr => ?_
 have rp0 := rp0.sub hzs
 have rp1 := rp1.sub hzs
 clear hzs
 unfold reckonerlaw13_EvalBranches_2 at hS
 refine rg fun K k => z_box h H rfl O7 rfl rfl fun a p1 w X H h => ?_
 have H : HZ w0 _ _ [_] _ := H
 refine cps 1 h rfl fun a h => cz k <| rg fun K k => cps 1 h rfl fun a h => cz k ?_
 obtain ⟨J3, eJ3, hS⟩ := bv hS
 refine sqJ (fun a w => ∃ (Z : FZ) (s3 : Int), J3 s3 = some res ∧ Fr 75 [(1, xv1), (2, (pt p1)), (5, .int .i64 s3)] a ∧ HZ w0 Zi Z [.blk p1 (Cel [.int .i64 x0.v.k, .int .i64 x0.v.n, S x0.v.s, .int .i64 x0.c.s, .int .i64 x0.c.c, .int .i64 x0.c.r, xv0] 51)] w ∧ RdN Z xv1 rsEnc x1 ∧ RdZ Z xv0 3 cL x0.l) ?_ ?_
 rintro a w ⟨Z, s3, hS, h, H, rp1, rp0⟩
 subst eJ3
 obtain ⟨J5, eJ5, hS⟩ := bv hS
 refine sqJ (fun a w => ∃ (Z : FZ) (s5 : Unit), J5 s5 = some res ∧ Fr 75 [(1, xv1), (2, (pt p1)), (5, .int .i64 s3)] a ∧ HZ w0 Zi Z [.blk p1 (Cel [.int .i64 x0.v.k, .int .i64 x0.v.n, S x0.v.s, .int .i64 x0.c.s, .int .i64 x0.c.c, .int .i64 x0.c.r, xv0] 51)] w ∧ RdN Z xv1 rsEnc x1 ∧ RdZ Z xv0 3 cL x0.l) ?_ ?_
 rintro a w ⟨Z, s5, hS, h, H, rp1, rp0⟩
 subst eJ5
 refine fl h ?_
 refine fcps 1 rfl ?_
 refine F1 rfl (fun w X => v_fieldAddr rfl U51 rfl sizeOf49 rfl rfl) ?_
 refine F1 rfl (fun w X => have H := H.ext X; l1 H 0 isAgg49) ?_
 refine F1 rfl (fun w X => have H := H.ext X; v_len U49 rfl (rp0.at H.zin)) ?_
 refine fB hS rfl (fun w X => v_eq rfl rfl) fun z6 e6 hS => ?_
 refine fcps 1 rfl ?_
 refine f_g [2, 63] rfl rfl rfl (gT rfl) rfl rfl (fun e0 w X => v_fieldAddr rfl U51 rfl Z26 rfl rfl) ?_
 refine f_g [64, 63] rfl rfl rfl (gT rfl) rfl rfl (fun e0 w X => have H := H.ext X; v_loadA O3 (eg e0 rfl) A26 Z26 (H.hp.get 0 rfl) rfl rfl) ?_
 refine f_g [1, 63] rfl rfl rfl (gT rfl) rfl rfl (fun e0 w X => v_move rfl) ?_
 refine f_g [1, 63] rfl rfl rfl (gT rfl) rfl rfl (fun e0 w X => v_move rfl) ?_
 refine f_g [67, 63] rfl rfl rfl (gT rfl) rfl rfl (fun e0 w X => have H := H.ext X; v_lenN U70 (eg e0 rfl) rp1 H.zin) ?_
 obtain ⟨z7, e7, hS⟩ := bv hS
 refine f_g [68, 63] rfl rfl rfl (gT rfl) rfl rfl (fun e0 w X => vI e7 (v_subw (eg e0 rfl) rfl)) ?_
 obtain ⟨c8, hS⟩ := ck hS
 obtain ⟨z9, e9, hS⟩ := bv hS
 have q_10 := rp1.gel ⟨_, rsEnc_dflt⟩ z7
 rw [← e9] at q_10
 obtain ⟨css_10, cl_10, rc_10, hc_10, v70_10_1, hcs_10, r70_10_1⟩ := q_10
 refine f_gR (R := (fun w' v' => At w' v' (fun _ : Unit => [.int .i64 z9.v.k, .int .i64 z9.v.n, S z9.v.s, .int .i64 z9.c.s, .int .i64 z9.c.c, .int .i64 z9.c.r, v70_10_1]) () 0)) (c := z6) [66, 69, 63] rfl rfl rfl rfl rfl at_stab (fun w X => ?_) ?_
 skip
 exact ⟨(gT rfl), fun e0 => have H := H.ext X; d_idxC U70 Z51 (eg e0 rfl) (eg e0 rfl) (rc_10.at H.zin) (c8 e0).1 (hc_10 (c8 e0)) hcs_10⟩
 refine f_gR (R := (fun w' v' => At w' v' (fun _ : Unit => [.int .i64 z9.v.k, .int .i64 z9.v.n, S z9.v.s, .int .i64 z9.c.s, .int .i64 z9.c.c, .int .i64 z9.c.r, v70_10_1]) () 0)) (c := z6) [70, 63] rfl rfl rfl rfl rfl at_stab (fun w X => ?_) ?_
 intro v70 h70
 exact ⟨(gT rfl), fun e0 => d_field rfl (h70 e0) U51 rfl Z26 rfl rfl⟩
 refine f_gE (V := (vA z9.v)) (c := z6) [71, 63] rfl rfl rfl rfl rfl (fun w X => ?_) ?_
 intro v71 h71
 exact ⟨(gT rfl), fun e0 => (v_loadAtA O3 rfl (h71 e0) A26 Z26 rfl rfl).doesF⟩
 obtain ⟨z11, e11, hS⟩ := bv hS
 refine f_g [65, 72, 63] rfl rfl rfl (gT rfl) rfl rfl (fun e0 w X => vB e11 (v_aggeq (eg e0 rfl) (eg e0 rfl) age26 (agq26 _ _ _ _ _ _))) ?_
 refine fB hS rfl (fun w X => v_and rfl rfl) fun z12 e12 hS => ?_
 refine fcps 1 rfl ?_
 refine fE [4] [_] H fun a w X H h => ?_
 cases hS
 refine r1 hr h rfl rfl ⟨rfl, H.out⟩
 refine rg fun K k => cps 1 h rfl fun a h => s1 h rfl (v_lenN U70 rfl rp1 H.zin) fun a h => ?_
 refine cps 1 h rfl fun a h => cz k <| lb ?_
 obtain ⟨B14, eB14, hS⟩ := bv hS
 refine lpJ (fun mu_ a w => ∃ (Z : FZ) (s14 : Int), loopF B14 mu_ s14 = some res ∧ Fr 75 [(1, xv1), (2, (pt p1)), (5, .int .i64 s3), (39, xv1), (40, .int .i64 (x1.length : Int)), (41, .int .i64 s14)] a ∧ HZ w0 Zi Z [.blk p1 (Cel [.int .i64 x0.v.k, .int .i64 x0.v.n, S x0.v.s, .int .i64 x0.c.s, .int .i64 x0.c.c, .int .i64 x0.c.r, xv0] 51)] w ∧ RdN Z xv1 rsEnc x1 ∧ RdZ Z xv0 3 cL x0.l) KK ⟨_, _, hS, h.to, H, rp1, rp0⟩ ?_
 rintro mu_ a w ⟨Z, s14, hS, h, H, rp1, rp0⟩
 obtain ⟨mu_, rfl, n14, en14, hS⟩ := lpX eB14 hS
 refine rg fun K k => sB h hS rfl (v_lt rfl rfl) fun z16 e16 hS a h => ?_
 refine cz k <| sq <| cI h hS rfl (fun ec18 hS => ?_) fun ec18 hS => ?_
 refine c_skip <| sb ?_
 refine rg fun K k => ?_
 obtain ⟨c20, hS⟩ := ck hS
 obtain ⟨z21, e21, hS⟩ := bv hS
 have q_22 := rp1.gel ⟨_, rsEnc_dflt⟩ s14
 rw [← e21] at q_22
 obtain ⟨css_22, cl_22, rc_22, hc_22, v43_22_1, hcs_22, r43_22_1⟩ := q_22
 refine st_idxC h U70 Z51 rfl rfl (rc_22.at H.zin) c20.1 (hc_22 c20) hcs_22 rfl fun a v43 A43 h => ?_
 refine s1 h rfl (v_loadAtA O7 rfl A43 A51 Z51 rfl rfl) fun a h => ?_
 refine zA h H V51 O7 (fun x => [_, x]) fun a p23 w X H h => ?_
 have A43 := At.ext A43 X
 refine z_store h H 1 rfl rfl rfl Z51 O7 rfl rfl (by obtain ⟨_, _, _, e_⟩ := (r43_22_1).form; subst e_; rfl) (by simp) O7 rfl (hl' := O2) rfl fun w H => ?_
 refine cz k <| rg fun K k => s1 h rfl (v_fieldAddr rfl U51 rfl sizeOf49 rfl rfl) fun a h => ?_
 refine s1 h rfl (l1 H 1 isAgg49) fun a h => ?_
 refine s1 h rfl (v_len U49 rfl (r43_22_1.at H.zin)) fun a h => ?_
 refine cps 1 h rfl fun a h => cN k h [1, 2, 5, 39, 40, 41, 46, 47, 48] O9 fun h => ?_
 refine lb ?_
 obtain ⟨B25, eB25, hS⟩ := bv hS
 refine lpJ (fun mu_ a w => ∃ (Z : FZ) (s25 : Int), loopF B25 mu_ s25 = some res ∧ Fr 75 [(1, xv1), (2, (pt p1)), (5, .int .i64 s3), (39, xv1), (40, .int .i64 (x1.length : Int)), (41, .int .i64 s14), (46, v43_22_1), (47, .int .i64 (z21.l.length : Int)), (48, .int .i64 s25)] a ∧ HZ w0 Zi Z [.blk p1 (Cel [.int .i64 x0.v.k, .int .i64 x0.v.n, S x0.v.s, .int .i64 x0.c.s, .int .i64 x0.c.c, .int .i64 x0.c.r, xv0] 51), .blk p23 (Cel [.int .i64 z21.v.k, .int .i64 z21.v.n, S z21.v.s, .int .i64 z21.c.s, .int .i64 z21.c.c, .int .i64 z21.c.r, v43_22_1] 51)] w ∧ RdN Z xv1 rsEnc x1 ∧ RdZ Z v43_22_1 3 cL z21.l ∧ RdZ Z xv0 3 cL x0.l) KK ⟨_, _, hS, h.to, H, rp1, r43_22_1, rp0⟩ ?_
 rintro mu_ a w ⟨Z, s25, hS, h, H, rp1, r43_22_1, rp0⟩
 obtain ⟨mu_, rfl, n25, en25, hS⟩ := lpX eB25 hS
 refine rg fun K k => sB h hS rfl (v_lt rfl rfl) fun z27 e27 hS a h => ?_
 refine cz k <| sq <| cI h hS rfl (fun ec29 hS => ?_) fun ec29 hS => ?_
 refine c_skip <| sb ?_
 refine rg fun K k => ?_
 obtain ⟨c31, hS⟩ := ck hS
 obtain ⟨z32, e32, hS⟩ := bv hS
 refine st_idx h U49 Z28 rfl rfl (r43_22_1.at H.zin) (fun _ => rfl) z32 c31.1 (by rw [e32]; exact gel_some c31) rfl fun a v50 A50 h => ?_
 refine s1 h rfl (v_loadAtA O3 rfl A50 A28 Z28 rfl rfl) fun a h => ?_
 refine zA h H V28 O3 (fun x => [_, _, x]) fun a p33 w X H h => ?_
 have A50 := At.ext A50 X
 refine zS h H 2 Z28 O3 O3 O3 fun w H => ?_
 refine cz k <| rg fun K k => s1 h rfl (lA H 0 A51 Z51 O7) fun a h => ?_
 refine s1 h rfl (lA H 2 A28 Z28 O3) fun a h => ?_
 refine sC h H hS rfl (fun y34 f34 => dC call27 (reckonerlaw13_asked_ok f34 (rp0.hz H.zin) :)) fun y34 hS w X H a h => ?_
 refine sB h hS rfl (v_not rfl) fun z35 e35 hS a h => ?_
 refine cN k h [1, 2, 5, 39, 40, 41, 46, 47, 48, 55] O10 fun h => ?_
 refine cI h hS rfl (fun ec36 hS => ?_) fun ec36 hS => ?_
 refine rg fun K k => cps 1 h rfl fun a h => cN k h [4] [_] fun h => ?_
 cases hS
 refine r1 hr h rfl rfl ⟨rfl, H.out⟩
 refine c_skip <| c_lregion <| sI h hS rfl (v_addw rfl rfl) fun z37 e37 hS a h => ?_
 refine cps 1 h rfl fun a h => c_lnil ?_
 exact exL (ex2 ⟨lpN en25 hS, h.to, (H.keepN 2 rfl), rp1, r43_22_1, rp0⟩)
 refine c_exit ?_
 refine cO h [1, 2, 5, 39, 40, 41] O6 fun h => ?_
 refine c_lregion <| sI h hS rfl (v_addw rfl rfl) fun z38 e38 hS a h => ?_
 refine cps 1 h rfl fun a h => c_lnil ?_
 exact exL (ex2 ⟨lpN en14 hS, h.to, (H.keepN 1 rfl), rp1, rp0⟩)
 exact c_exit (exU1 ⟨hS, h.to, H, rp1, rp0⟩)
 refine rg fun K k => s1 h rfl (v_fieldAddr rfl U51 rfl sizeOf49 rfl rfl) fun a h => ?_
 refine s1 h rfl (l1 H 0 isAgg49) fun a h => ?_
 refine s1 h rfl (v_len U49 rfl (rp0.at H.zin)) fun a h => ?_
 refine cps 1 h rfl fun a h => cz k <| lb ?_
 obtain ⟨B40, eB40, hS⟩ := bv hS
 refine lpJ (fun mu_ a w => ∃ (Z : FZ) (s40 : Int × Int), loopF B40 mu_ s40 = some res ∧ Fr 75 [(1, xv1), (2, (pt p1)), (5, .int .i64 s40.1), (16, xv0), (17, .int .i64 (x0.l.length : Int)), (18, .int .i64 s40.2)] a ∧ HZ w0 Zi Z [.blk p1 (Cel [.int .i64 x0.v.k, .int .i64 x0.v.n, S x0.v.s, .int .i64 x0.c.s, .int .i64 x0.c.c, .int .i64 x0.c.r, xv0] 51)] w ∧ RdN Z xv1 rsEnc x1 ∧ RdZ Z xv0 3 cL x0.l) KK ⟨_, _, hS, h.to, H, rp1, rp0⟩ ?_
 rintro mu_ a w ⟨Z, s40, hS, h, H, rp1, rp0⟩
 obtain ⟨mu_, rfl, n40, en40, hS⟩ := lpX eB40 hS
 refine rg fun K k => sB h hS rfl (v_lt rfl rfl) fun z42 e42 hS a h => ?_
 refine cz k <| sq <| cI h hS rfl (fun ec44 hS => ?_) fun ec44 hS => ?_
 refine c_skip <| sb ?_
 refine rg fun K k => ?_
 obtain ⟨c46, hS⟩ := ck hS
 obtain ⟨z47, e47, hS⟩ := bv hS
 refine st_idx h U49 Z28 rfl rfl (rp0.at H.zin) (fun _ => rfl) z47 c46.1 (by rw [e47]; exact gel_some c46) rfl fun a v20 A20 h => ?_
 refine s1 h rfl (v_loadAtA O3 rfl A20 A28 Z28 rfl rfl) fun a h => ?_
 refine zA h H V28 O3 (fun x => [_, x]) fun a p48 w X H h => ?_
 have A20 := At.ext A20 X
 refine zS h H 1 Z28 O3 O3 O2 fun w H => ?_
 refine cz k <| rg fun K k => cps 1 h rfl fun a h => cz k ?_
 obtain ⟨J50, eJ50, hS⟩ := bv hS
 refine sqJ (fun a w => ∃ (Z : FZ) (s50 : Bool), J50 s50 = some res ∧ Fr 75 [(1, xv1), (2, (pt p1)), (5, .int .i64 s40.1), (8, .bool s50), (16, xv0), (17, .int .i64 (x0.l.length : Int)), (18, .int .i64 s40.2)] a ∧ HZ w0 Zi Z [.blk p1 (Cel [.int .i64 x0.v.k, .int .i64 x0.v.n, S x0.v.s, .int .i64 x0.c.s, .int .i64 x0.c.c, .int .i64 x0.c.r, xv0] 51), .blk p48 (Cel (cL z47) 28)] w ∧ RdN Z xv1 rsEnc x1 ∧ RdZ Z xv0 3 cL x0.l) ?_ ?_
 rintro a w ⟨Z, s50, hS, h, H, rp1, rp0⟩
 subst eJ50
 refine rg fun K k => cps 1 h rfl fun a h => cz k <| cI h hS rfl (fun ec51 hS => ?_) fun ec51 hS => ?_
 refine c_lregion <| cps 1 h rfl fun a h => sI h hS rfl (v_addw rfl rfl) fun z52 e52 hS a h => ?_
 refine cps 1 h rfl fun a h => c_lnil <| cO h [1, 2, 5, 16, 17, 18] O6 fun h => ?_
 refine c_lregion <| sI h hS rfl (v_addw rfl rfl) fun z53 e53 hS a h => ?_
 refine cps 1 h rfl fun a h => c_lnil ?_
 exact exL (ex2 ⟨lpN en40 hS, h.to, (H.keepN 1 rfl), rp1, rp0⟩)
 refine c_skip <| c_lregion <| sI h hS rfl (v_addw rfl rfl) fun z54 e54 hS a h => ?_
 refine cps 1 h rfl fun a h => c_lnil ?_
 exact exL (ex2 ⟨lpN en40 hS, h.to, (H.keepN 1 rfl), rp1, rp0⟩)
 refine rg fun K k => cps 1 h rfl fun a h => s1 h rfl (v_lenN U70 rfl rp1 H.zin) fun a h => ?_
 refine cps 1 h rfl fun a h => cz k <| lb ?_
 obtain ⟨B56, eB56, hS⟩ := bv hS
 refine lpJ (fun mu_ a w => ∃ (Z : FZ) (s56 : Bool × Int), loopF B56 mu_ s56 = some res ∧ Fr 75 [(1, xv1), (2, (pt p1)), (5, .int .i64 s40.1), (7, (pt p48)), (8, .bool s56.1), (16, xv0), (17, .int .i64 (x0.l.length : Int)), (18, .int .i64 s40.2), (22, xv1), (23, .int .i64 (x1.length : Int)), (24, .int .i64 s56.2)] a ∧ HZ w0 Zi Z [.blk p1 (Cel [.int .i64 x0.v.k, .int .i64 x0.v.n, S x0.v.s, .int .i64 x0.c.s, .int .i64 x0.c.c, .int .i64 x0.c.r, xv0] 51), .blk p48 (Cel (cL z47) 28)] w ∧ RdN Z xv1 rsEnc x1 ∧ RdZ Z xv0 3 cL x0.l) KK ⟨_, _, hS, h.to, H, rp1, rp0⟩ ?_
 rintro mu_ a w ⟨Z, s56, hS, h, H, rp1, rp0⟩
 obtain ⟨mu_, rfl, n56, en56, hS⟩ := lpX eB56 hS
 refine rg fun K k => sB h hS rfl (v_lt rfl rfl) fun z58 e58 hS a h => ?_
 refine cz k <| sq <| cI h hS rfl (fun ec60 hS => ?_) fun ec60 hS => ?_
 refine c_skip <| sb ?_
 refine rg fun K k => ?_
 obtain ⟨c62, hS⟩ := ck hS
 obtain ⟨z63, e63, hS⟩ := bv hS
 have q_64 := rp1.gel ⟨_, rsEnc_dflt⟩ s56.2
 rw [← e63] at q_64
 obtain ⟨css_64, cl_64, rc_64, hc_64, v26_64_1, hcs_64, r26_64_1⟩ := q_64
 refine st_idxC h U70 Z51 rfl rfl (rc_64.at H.zin) c62.1 (hc_64 c62) hcs_64 rfl fun a v26 A26 h => ?_
 refine s1 h rfl (v_loadAtA O7 rfl A26 A51 Z51 rfl rfl) fun a h => ?_
 refine zA h H V51 O7 (fun x => [_, _, x]) fun a p65 w X H h => ?_
 have A26 := At.ext A26 X
 refine z_store h H 2 rfl rfl rfl Z51 O7 rfl rfl (by obtain ⟨_, _, _, e_⟩ := (r26_64_1).form; subst e_; rfl) (by simp) O7 rfl (hl' := O3) rfl fun w H => ?_
 refine cz k <| c_lregion <| cps 2 h rfl fun a h => st_g h rfl rfl (gF rfl) rfl rfl (fun e0 => lA H 2 A51 Z51 O7) fun a h => ?_
 refine st_g h rfl rfl (gF rfl) rfl rfl (fun e0 => lA H 1 A28 Z28 O3) fun a h => ?_
 obtain ⟨y66, f66, hS⟩ := bo hS
 refine st_gd (T := Ext) (V := .bool y66) h rfl rfl (gF rfl) rfl rfl (Ext.refl _) (fun e0 => d_call O2 (evs_c (eg e0 rfl) (evs_c (eg e0 rfl) evs_n)) call27 (reckonerlaw13_asked_ok (x0 := z63) (x1 := z47) (ifT e0 f66) (r26_64_1.hz H.zin))) fun w X a h => ?_
 have H := H.ext X
 refine sB h hS rfl (v_or rfl rfl) fun z67 e67 hS a h => ?_
 refine cps 1 h rfl fun a h => c_lnil <| cO h [1, 2, 5, 7, 8, 16, 17, 18, 22, 23, 24] O11 fun h => ?_
 refine c_lregion <| sI h hS rfl (v_addw rfl rfl) fun z68 e68 hS a h => ?_
 refine cps 1 h rfl fun a h => c_lnil ?_
 exact exL (ex2 ⟨lpN en56 hS, h.to, (H.keepN 2 rfl), rp1, rp0⟩)
 exact c_exit (ex2 ⟨hS, h.to, H, rp1, rp0⟩)
 exact c_exit (ex2 ⟨hS, h.to, H, rp1, rp0⟩)
theorem reckonerlaw13_EvalBranches_ok {x0 : List (Int)} {x1 : List (Int)} {x2 : B2} {res : Bool} {w0 : World} (hS : reckonerlaw13_EvalBranches x0 x1 x2 = some res) {xv0 : Value} (rp0 : RdZ (hz w0) xv0 1 (eI .u8) x0) {xv1 : Value} (rp1 : RdZ (hz w0) xv1 1 (eI .u8) x1) {xv2 : Value} (rp2 : RdZ (hz w0) xv2 1 (eI .u8) x2.a) {xv2_2 : Value} (rp2_2 : RdZ (hz w0) xv2_2 1 (eI .u8) x2.b) (hG : GW w0) : Calls Tryz.prog 6 [xv0, xv1, .agg #[xv2, xv2_2]].toArray w0 (Ret fun v w => v = .bool res ∧ Ext w0 w) := by
 refine en func6 [0, 1, 2] O3 fun Q a Zi Z hzs H h hr => ?_
 have rp0 := rp0.sub hzs
 have rp1 := rp1.sub hzs
 have rp2 := rp2.sub hzs
 have rp2_2 := rp2_2.sub hzs
 clear hzs
 unfold reckonerlaw13_EvalBranches at hS
 refine rg fun K k => z_box h H rfl [xv0] (by rw [rp0.cells]) rfl fun a p1 w X H h => ?_
 have H : HZ w0 _ _ [_] _ := H
 refine z_box h H rfl [xv1] (by rw [rp1.cells]) rfl fun a p2 w X H h => ?_
 have H : HZ w0 _ _ O2 _ := H
 refine z_box h H rfl O2 rfl rfl fun a p3 w X H h => ?_
 have H : HZ w0 _ _ O3 _ := H
 refine cps 1 h rfl fun a h => cN k h [3, 4, 5] O3 fun h => ?_
 refine sq <| rg fun K k => sC h H hS rfl (fun y5 f5 => dC call22 (reckonerlaw13_fit_ok f5 (hG.ext H.out) :)) fun y5 hS w X H a h => ?_
 refine sB h hS rfl (v_not rfl) fun z6 e6 hS a h => ?_
 refine cz k <| cI h hS rfl (fun ec7 hS => ?_) fun ec7 hS => ?_
 refine rg fun K k => cps 1 h rfl fun a h => cN k h [6] [_] fun h => ?_
 cases hS
 refine r1 hr h rfl rfl ⟨rfl, H.out⟩
 refine c_skip <| sq <| rg fun K k => s1 h rfl (l1 H 0 isAgg23) fun a h => ?_
 refine s1 h rfl (v_len U23 rfl (rp0.at H.zin)) fun a h => ?_
 refine s1 h rfl (l1 H 1 isAgg23) fun a h => ?_
 refine s1 h rfl (v_len U23 rfl (rp1.at H.zin)) fun a h => ?_
 refine sI h hS rfl (v_addw rfl rfl) fun z9 e9 hS a h => ?_
 refine s1 (V := (pt p3)) h rfl (v_idxArrP (p := 0) underlying66 sizeOf22 rfl rfl (by decide)) fun a h => ?_
 refine s1 h rfl (l1 H 2 isAgg22) fun a h => ?_
 refine s1 h rfl (v_len U22 rfl (rp2.at H.zin)) fun a h => ?_
 refine sI h hS rfl (v_addw rfl rfl) fun z10 e10 hS a h => ?_
 refine s1 (V := .pointer (some ⟨p3, 1, none⟩)) h rfl (v_idxArrP (p := 1) underlying66 sizeOf22 rfl rfl (by decide)) fun a h => ?_
 refine s1 h rfl (l1 H 2 isAgg22) fun a h => ?_
 refine s1 h rfl (v_len U22 rfl (rp2_2.at H.zin)) fun a h => ?_
 refine sI h hS rfl (v_addw rfl rfl) fun z11 e11 hS a h => ?_
 refine sB h hS rfl (v_gt rfl rfl) fun z12 e12 hS a h => ?_
 refine cN k h [3, 4, 5, 38] O4 fun h => ?_
 refine cI h hS rfl (fun ec13 hS => ?_) fun ec13 hS => ?_
 refine rg fun K k => cps 1 h rfl fun a h => cN k h [6] [_] fun h => ?_
 cases hS
 refine r1 hr h rfl rfl ⟨rfl, H.out⟩
 refine c_skip <| rg fun K k => s1 (V := (pt p3)) h rfl (v_idxArrP (p := 0) underlying66 sizeOf22 rfl rfl (by decide)) fun a h => ?_
 refine s1 h rfl (l1 H 2 isAgg22) fun a h => ?_
 refine zA h H zeroValue23 [_] (fun x => [_, _, _, x]) fun a p14 w X H h => ?_
 refine z_store h H 3 rfl rfl rfl sizeOf23 [xv2] (by rw [rp2.cells]) rfl (by obtain ⟨_, _, _, e_⟩ := (rp2).form; subst e_; rfl) (by simp) [_] rfl (hl' := O4) rfl fun w H => ?_
 refine cz k <| rg fun K k => cps 1 h rfl fun a h => cz k ?_
 have H := H.nilRow 26 3 rfl
 have H : HZ w0 _ _ O5 _ := H
 obtain ⟨J16, eJ16, hS⟩ := bv hS
 refine sqJ (fun a w => ∃ (Z : FZ) (s16 : (List (V))) (sv17 : Value), J16 s16 = some res ∧ Fr 186 [(3, (pt p1)), (4, (pt p2)), (7, (pt p14)), (8, sv17)] a ∧ HZ w0 Zi Z [.blk p1 (Cel [xv0] 23), .blk p2 (Cel [xv1] 23), .blk p3 (Cel [xv2, xv2_2] 66), .blk p14 (Cel [xv2] 23), .row 26 3 sv17 (s16 : List (V)).length ((s16 : List (V)).flatMap vL)] w ∧ RdZ Z xv0 1 (eI .u8) x0 ∧ RdZ Z xv1 1 (eI .u8) x1 ∧ RdZ Z xv2 1 (eI .u8) x2.a ∧ RdZ Z xv2_2 1 (eI .u8) x2.b) ?_ ?_
 rintro a w ⟨Z, s16, sv17, hS, h, H, rp0, rp1, rp2, rp2_2⟩
 subst eJ16
 obtain ⟨Z, hsub, H, rz4_18⟩ := H.freezeRow (enc := vL) (out := s16) 4 rfl
 have rp0 := rp0.sub hsub
 have rp1 := rp1.sub hsub
 have rp2 := rp2.sub hsub
 have rp2_2 := rp2_2.sub hsub
 have H : HZ w0 _ _ O5 _ := H
 refine rg fun K k => ?_
 obtain ⟨y19, f19, hS⟩ := bo hS
 refine st2 h rfl rfl rfl (dC call13 (reckonerlaw05_Seed_Formula_ok KK f19 H.zin rp0 (H.hp.get 0 rfl) (H.offI 0 rfl _ rfl) rfl rfl (hG.ext H.out))) ?_
 rintro v_ w ⟨v76_20_1, rfl, r76_20_1, ⟨sv_20, hm_20, rs_20⟩, X⟩ a h
 obtain ⟨Z, hsub, hadd, H⟩ := H.lentB 0 rfl hm_20 X (hl' := O5) rfl
 have rp1 := rp1.sub hsub
 have rp2 := rp2.sub hsub
 have rp2_2 := rp2_2.sub hsub
 have rz4_18 := rz4_18.sub hsub
 have r76_20_1 := r76_20_1.sub hadd
 have rs_20 := rs_20.sub hadd
 have H : HZ w0 _ _ O5 _ := H
 obtain ⟨y21, f21, hS⟩ := bo hS
 refine st2 h rfl rfl rfl (dC call13 (reckonerlaw05_Seed_Formula_ok KK f21 H.zin rp1 (H.hp.get 1 rfl) (H.offI 1 rfl _ rfl) rfl rfl (hG.ext H.out))) ?_
 rintro v_ w ⟨v77_22_1, rfl, r77_22_1, ⟨sv_22, hm_22, rs_22⟩, X⟩ a h
 obtain ⟨Z, hsub, hadd, H⟩ := H.lentB 1 rfl hm_22 X (hl' := O5) rfl
 have r76_20_1 := r76_20_1.sub hsub
 have rp2 := rp2.sub hsub
 have rp2_2 := rp2_2.sub hsub
 have rs_20 := rs_20.sub hsub
 have rz4_18 := rz4_18.sub hsub
 have r77_22_1 := r77_22_1.sub hadd
 have rs_22 := rs_22.sub hadd
 have H : HZ w0 _ _ O5 _ := H
 obtain ⟨y23, f23, hS⟩ := bo hS
 refine st2 h rfl rfl rfl (dC call13 (reckonerlaw05_Seed_Formula_ok KK f23 H.zin rp2 (H.hp.get 3 rfl) (H.offI 3 rfl _ rfl) rfl rfl (hG.ext H.out))) ?_
 rintro v_ w ⟨v78_24_1, rfl, r78_24_1, ⟨sv_24, hm_24, rs_24⟩, X⟩ a h
 obtain ⟨Z, hsub, hadd, H⟩ := H.lentB 3 rfl hm_24 X (hl' := O5) rfl
 have r76_20_1 := r76_20_1.sub hsub
 have r77_22_1 := r77_22_1.sub hsub
 have rp2_2 := rp2_2.sub hsub
 have rs_20 := rs_20.sub hsub
 have rs_22 := rs_22.sub hsub
 have rz4_18 := rz4_18.sub hsub
 have r78_24_1 := r78_24_1.sub hadd
 have rs_24 := rs_24.sub hadd
 have H : HZ w0 _ _ O5 _ := H
 refine zA h H V33 O17 (fun x => [_, _, _, _, _, x]) fun a p25 w X H h => ?_
 refine zA h H V33 O17 (fun x => [_, _, _, _, _, _, x]) fun a p26 w X H h => ?_
 refine zA h H V33 O17 (fun x => [_, _, _, _, _, _, _, x]) fun a p27 w X H h => ?_
 refine z_store h H 5 rfl rfl rfl Z33 O17 rfl rfl (by obtain ⟨_, _, _, e_⟩ := (r76_20_1).form; subst e_; rfl) (by simp) O17 rfl (hl' := O8) rfl fun w H => ?_
 refine z_store h H 6 rfl rfl rfl Z33 O17 rfl rfl (by obtain ⟨_, _, _, e_⟩ := (r77_22_1).form; subst e_; rfl) (by simp) O17 rfl (hl' := O8) rfl fun w H => ?_
 refine z_store h H 7 rfl rfl rfl Z33 O17 rfl rfl (by obtain ⟨_, _, _, e_⟩ := (r78_24_1).form; subst e_; rfl) (by simp) O17 rfl (hl' := O8) rfl fun w H => ?_
 refine cN k h [8, 11, 12, 13] O4 fun h => ?_
 refine rg fun K k => cps 1 h rfl fun a h => ?_
 obtain ⟨y28, f28, hS⟩ := bo hS
 refine st2 h rfl rfl rfl (dC call23 (reckonerlaw13_Place_ok f28 H.zin rz4_18)) ?_
 rintro v_ w ⟨p29, rfl, ⟨lo_8, hb_8, lp8⟩, X⟩ a h
 have H := H.pushF X hb_8 lo_8
 have H : HZ w0 _ _ O9 _ := H
 refine zA h H zeroValue35 [_] (fun x => [_, _, _, _, _, _, _, _, _, x]) fun a p30 w X H h => ?_
 refine zS h H 9 sizeOf35 [_] [_] O10 fun w H => ?_
 refine cz k <| rg fun K k => ?_
 obtain ⟨Z, hsub, H, hz8_31⟩ := H.freezeB 8 rfl rfl
 have r76_20_1 := r76_20_1.sub hsub
 have r77_22_1 := r77_22_1.sub hsub
 have r78_24_1 := r78_24_1.sub hsub
 have rp2_2 := rp2_2.sub hsub
 have rs_20 := rs_20.sub hsub
 have rs_22 := rs_22.sub hsub
 have rs_24 := rs_24.sub hsub
 have rz4_18 := rz4_18.sub hsub
 have H : HZ w0 _ _ O10 _ := H
 obtain ⟨Z, hsub, H, hz9_32⟩ := H.freezeB 9 rfl rfl
 have r76_20_1 := r76_20_1.sub hsub
 have r77_22_1 := r77_22_1.sub hsub
 have r78_24_1 := r78_24_1.sub hsub
 have rp2_2 := rp2_2.sub hsub
 have rs_20 := rs_20.sub hsub
 have rs_22 := rs_22.sub hsub
 have rs_24 := rs_24.sub hsub
 have rz4_18 := rz4_18.sub hsub
 have hz8_31 := hsub _ _ hz8_31
 have H : HZ w0 _ _ O10 _ := H
 refine s1 h rfl (v_makeFunc [_] rfl) fun a h => ?_
 refine cps 1 h rfl fun a h => cN k h [11, 12, 13, 15] O4 fun h => ?_
 refine rg fun K k => cps 1 h rfl fun a h => cz k <| flT 12 h fun K k => ?_
 refine fcps 1 rfl ?_
 refine F1 rfl (fun w X => have H := H.ext X; lA H 5 A33 Z33 O17) ?_
 obtain ⟨y33, f33, hS⟩ := bo hS
 refine f_op [82, 83] rfl rfl rfl rfl false (.ivl (fun lo hi w' v' => ∃ v84_34_1, v' = .agg #[.int .i64 y33.v.k, .int .i64 y33.v.n, S y33.v.s, .int .i64 y33.c.s, .int .i64 y33.c.c, .int .i64 y33.c.r, v84_34_1] ∧ RdZ (ZBt Z0 lo hi w') v84_34_1 3 cL y33.l)) (fun lo hi w w' v X h => by obtain ⟨v84_34_1, hv, hr0⟩ := h; exact ⟨_, hv, hr0.sub (ZBt.grow X)⟩) (fun w X => ?_) ?_
 skip
 exact have Hs := ZB.of H.zin X; have H := H.ext X; Does.doesI (d_callV [_] rfl rfl call29 O2 rfl (reckonerlaw13_EvalBranches_1_ok f33 (ZB.inn H.zin) (r76_20_1.sub Hs) (Hs _ _ hz9_32) (Hs _ _ hz8_31) lp8 (hG.ext H.out))) (fun v w' hr => by obtain ⟨v84_34_1, hv, hr0, X'⟩ := hr; exact ⟨⟨_, hv, hr0.sub ZBt.of⟩, X'⟩)
 refine fcps 1 rfl ?_
 refine F1 rfl (fun w X => have H := H.ext X; lA H 6 A33 Z33 O17) ?_
 obtain ⟨y35, f35, hS⟩ := bo hS
 refine f_op [85, 86] rfl rfl rfl rfl false (.ivl (fun lo hi w' v' => ∃ v87_36_1, v' = .agg #[.int .i64 y35.v.k, .int .i64 y35.v.n, S y35.v.s, .int .i64 y35.c.s, .int .i64 y35.c.c, .int .i64 y35.c.r, v87_36_1] ∧ RdZ (ZBt Z0 lo hi w') v87_36_1 3 cL y35.l)) (fun lo hi w w' v X h => by obtain ⟨v87_36_1, hv, hr0⟩ := h; exact ⟨_, hv, hr0.sub (ZBt.grow X)⟩) (fun w X => ?_) ?_
 skip
 exact have Hs := ZB.of H.zin X; have H := H.ext X; Does.doesI (d_callV [_] rfl rfl call29 O2 rfl (reckonerlaw13_EvalBranches_1_ok f35 (ZB.inn H.zin) (r77_22_1.sub Hs) (Hs _ _ hz9_32) (Hs _ _ hz8_31) lp8 (hG.ext H.out))) (fun v w' hr => by obtain ⟨v87_36_1, hv, hr0, X'⟩ := hr; exact ⟨⟨_, hv, hr0.sub ZBt.of⟩, X'⟩)
 refine fcps 1 rfl ?_
 refine F1 rfl (fun w X => have H := H.ext X; lA H 7 A33 Z33 O17) ?_
 obtain ⟨y37, f37, hS⟩ := bo hS
 refine f_op [88, 89] rfl rfl rfl rfl false (.ivl (fun lo hi w' v' => ∃ v90_38_1, v' = .agg #[.int .i64 y37.v.k, .int .i64 y37.v.n, S y37.v.s, .int .i64 y37.c.s, .int .i64 y37.c.c, .int .i64 y37.c.r, v90_38_1] ∧ RdZ (ZBt Z0 lo hi w') v90_38_1 3 cL y37.l)) (fun lo hi w w' v X h => by obtain ⟨v90_38_1, hv, hr0⟩ := h; exact ⟨_, hv, hr0.sub (ZBt.grow X)⟩) (fun w X => ?_) ?_
 skip
 exact have Hs := ZB.of H.zin X; have H := H.ext X; Does.doesI (d_callV [_] rfl rfl call29 O2 rfl (reckonerlaw13_EvalBranches_1_ok f37 (ZB.inn H.zin) (r78_24_1.sub Hs) (Hs _ _ hz9_32) (Hs _ _ hz8_31) lp8 (hG.ext H.out))) (fun v w' hr => by obtain ⟨v90_38_1, hv, hr0, X'⟩ := hr; exact ⟨⟨_, hv, hr0.sub ZBt.of⟩, X'⟩)
 refine f_alloc V51 O7 rfl rfl ?_
 refine f_alloc V51 O7 rfl rfl ?_
 refine f_alloc V51 O7 rfl rfl ?_
 refine fn_ ?_
 intro a w X hR hA
 obtain ⟨_, ⟨p39, rfl, hb17⟩, _, ⟨p40, rfl, hb18⟩, _, ⟨p41, rfl, hb19⟩, vi84, _, vi87, _, vi90, _, h⟩ := hR.out [11, 12, 13, 15, 16, 17, 18, 19, 84, 87, 90]
 have h : Fr 186 [(90, _), (87, _), (84, _), (19, _), (18, _), (17, _), (16, _), (15, _), (13, _), (12, _), (11, _)] a := h
 obtain ⟨lo0_, hi0_, hlo0_, ⟨v84_34_1, hv_, r84_34_1⟩, hav0_⟩ := hA.iv 84 _ rfl
 rw [h.has 84 _ rfl] at hv_
 subst hv_
 obtain ⟨lo1_, hi1_, hlo1_, ⟨v87_36_1, hv_, r87_36_1⟩, hav1_⟩ := hA.iv 87 _ rfl
 rw [h.has 87 _ rfl] at hv_
 subst hv_
 obtain ⟨lo2_, hi2_, hlo2_, ⟨v90_38_1, hv_, r90_38_1⟩, hav2_⟩ := hA.iv 90 _ rfl
 rw [h.has 90 _ rfl] at hv_
 subst hv_
 have hav0_17 := hav0_ 17 (by simp) (by decide) p39 (by rw [h.has 17 _ rfl]; rfl)
 have hav1_17 := hav1_ 17 (by simp) (by decide) p39 (by rw [h.has 17 _ rfl]; rfl)
 have hav2_17 := hav2_ 17 (by simp) (by decide) p39 (by rw [h.has 17 _ rfl]; rfl)
 have lo17 := hA.lo' h (s := 17) rfl rfl
 have hav0_18 := hav0_ 18 (by simp) (by decide) p40 (by rw [h.has 18 _ rfl]; rfl)
 have hav1_18 := hav1_ 18 (by simp) (by decide) p40 (by rw [h.has 18 _ rfl]; rfl)
 have hav2_18 := hav2_ 18 (by simp) (by decide) p40 (by rw [h.has 18 _ rfl]; rfl)
 have lo18 := hA.lo' h (s := 18) rfl rfl
 have hav0_19 := hav0_ 19 (by simp) (by decide) p41 (by rw [h.has 19 _ rfl]; rfl)
 have hav1_19 := hav1_ 19 (by simp) (by decide) p41 (by rw [h.has 19 _ rfl]; rfl)
 have hav2_19 := hav2_ 19 (by simp) (by decide) p41 (by rw [h.has 19 _ rfl]; rfl)
 have lo19 := hA.lo' h (s := 19) rfl rfl
 have ne17_18 := hA.ne' h (s := 17) (t := 18) rfl rfl rfl rfl rfl
 have ne17_19 := hA.ne' h (s := 17) (t := 19) rfl rfl rfl rfl rfl
 have ne18_19 := hA.ne' h (s := 18) (t := 19) rfl rfl rfl rfl rfl
 obtain ⟨Z, hsub, hadd0, hadd1, hadd2, H⟩ := H.pushI3 X hb17 lo17 hb18 lo18 hb19 lo19 ne17_18 ne17_19 ne18_19 hlo0_ hlo1_ hlo2_ hav0_17 hav1_17 hav2_17 hav0_18 hav1_18 hav2_18 hav0_19 hav1_19 hav2_19
 have r76_20_1 := r76_20_1.sub hsub
 have r77_22_1 := r77_22_1.sub hsub
 have r78_24_1 := r78_24_1.sub hsub
 have rp2_2 := rp2_2.sub hsub
 have rs_20 := rs_20.sub hsub
 have rs_22 := rs_22.sub hsub
 have rs_24 := rs_24.sub hsub
 have hz8_31 := hsub _ _ hz8_31
 have hz9_32 := hsub _ _ hz9_32
 have r84_34_1 := r84_34_1.sub hadd0
 have r87_36_1 := r87_36_1.sub hadd1
 have r90_38_1 := r90_38_1.sub hadd2
 have H : HZ w0 _ _ O13 _ := H
 refine z_store h H 10 rfl rfl rfl Z51 O7 rfl rfl (by obtain ⟨_, _, _, e_⟩ := (r84_34_1).form; subst e_; rfl) (by simp) O7 rfl (hl' := O13) rfl fun w H => ?_
 refine z_store h H 11 rfl rfl rfl Z51 O7 rfl rfl (by obtain ⟨_, _, _, e_⟩ := (r87_36_1).form; subst e_; rfl) (by simp) O7 rfl (hl' := O13) rfl fun w H => ?_
 refine z_store h H 12 rfl rfl rfl Z51 O7 rfl rfl (by obtain ⟨_, _, _, e_⟩ := (r90_38_1).form; subst e_; rfl) (by simp) O7 rfl (hl' := O13) rfl fun w H => ?_
 refine cz k <| rg fun K k => s1 h rfl (v_fieldAddr rfl U51 rfl Z26 rfl rfl) fun a h => ?_
 refine s1 h rfl (lA H 10 A26 Z26 O3) fun a h => ?_
 refine sC h H hS rfl (fun y42 f42 => dC call31 (value_ToBool_ok f42 :)) fun y42 hS w X H a h => ?_
 refine zA h H V26 O3 (fun x => [_, _, _, _, _, _, _, _, _, _, _, _, _, x]) fun a p43 w X H h => ?_
 refine zS h H 13 Z26 O3 O3 O14 fun w H => ?_
 refine cN k h [11, 12, 13, 15, 16, 17, 18, 19, 20] O9 fun h => ?_
 refine rg fun K k => s1 h rfl (lA H 12 A51 Z51 O7) fun a h => ?_
 refine zA h H V51 O7 (fun x => [_, _, _, _, _, _, _, _, _, _, _, _, _, _, x]) fun a p44 w X H h => ?_
 refine z_store h H 14 rfl rfl rfl Z51 O7 rfl rfl (by obtain ⟨_, _, _, e_⟩ := (r90_38_1).form; subst e_; rfl) (by simp) O7 rfl (hl' := O15) rfl fun w H => ?_
 refine cz k ?_
 obtain ⟨J46, eJ46, hS⟩ := bv hS
 refine sqJ (fun a w => ∃ (Z : FZ) (s46 : Int × Int × (List UInt8) × Int × Int × Int × (List (C))) (v14_6_47 : Value), J46 s46 = some res ∧ Fr 186 [(11, (pt p25)), (12, (pt p26)), (13, (pt p27)), (15, .func (.func 29) #[] #[(pt p30)]), (16, .func (.func 30) #[] #[]), (17, (pt p39)), (18, (pt p40)), (20, (pt p43)), (21, (pt p44))] a ∧ HZ w0 Zi Z [.blk p1 (Cel [sv_20] 23), .blk p2 (Cel [sv_22] 23), .blk p3 (Cel [xv2, xv2_2] 66), .blk p14 (Cel [sv_24] 23), .row 26 3 (.slice none 0 0) 0 [], .blk p25 (Cel (nL y19.1 v76_20_1) 33), .blk p26 (Cel (nL y21.1 v77_22_1) 33), .blk p27 (Cel (nL y23.1 v78_24_1) 33), .row 0 1 (.slice none 0 0) 0 [], .row 0 1 (.slice none 0 0) 0 [], .blk p39 (Cel [.int .i64 y33.v.k, .int .i64 y33.v.n, S y33.v.s, .int .i64 y33.c.s, .int .i64 y33.c.c, .int .i64 y33.c.r, v84_34_1] 51), .blk p40 (Cel [.int .i64 y35.v.k, .int .i64 y35.v.n, S y35.v.s, .int .i64 y35.c.s, .int .i64 y35.c.c, .int .i64 y35.c.r, v87_36_1] 51), .blk p41 (Cel [.int .i64 y37.v.k, .int .i64 y37.v.n, S y37.v.s, .int .i64 y37.c.s, .int .i64 y37.c.c, .int .i64 y37.c.r, v90_38_1] 51), .blk p43 (Cel (vL y42) 26), .blk p44 (Cel [.int .i64 s46.1, .int .i64 s46.2.1, S s46.2.2.1, .int .i64 s46.2.2.2.1, .int .i64 s46.2.2.2.2.1, .int .i64 s46.2.2.2.2.2.1, v14_6_47] 51)] w ∧ RdZ Z v14_6_47 3 cL s46.2.2.2.2.2.2 ∧ RdZ Z sv_20 1 (eI .u8) y19.2 ∧ RdZ Z sv_22 1 (eI .u8) y21.2 ∧ RdZ Z xv2_2 1 (eI .u8) x2.b ∧ RdZ Z sv_24 1 (eI .u8) y23.2 ∧ RdN Z v76_20_1 nodeEnc y19.1.l ∧ RdN Z v77_22_1 nodeEnc y21.1.l ∧ RdN Z v78_24_1 nodeEnc y23.1.l ∧ RdZ Z v84_34_1 3 cL y33.l ∧ RdZ Z v87_36_1 3 cL y35.l ∧ RdZ Z v90_38_1 3 cL y37.l ∧ Z p29 = some (Cel ((y28 : List V).flatMap vL) 39) ∧ Z p30 = some (Cel [(pt p29)] 35)) ?_ ?_
 rintro a w ⟨Z, s46, v14_6_47, hS, h, H, r14_6_47, rs_20, rs_22, rp2_2, rs_24, r76_20_1, r77_22_1, r78_24_1, r84_34_1, r87_36_1, r90_38_1, hz8_31, hz9_32⟩
 subst eJ46
 refine rg fun K k => cps 1 h rfl fun a h => s1 h rfl (lA H 5 A33 Z33 O17) fun a h => ?_
 refine s1 h rfl (lA H 6 A33 Z33 O17) fun a h => ?_
 refine s1 h rfl (lA H 7 A33 Z33 O17) fun a h => ?_
 refine z_slice (enc := (Subtype.val (p := fun l : List Value => l.length = 17))) ([⟨(nL y19.1 v76_20_1), rfl⟩, ⟨(nL y21.1 v77_22_1), rfl⟩, ⟨(nL y23.1 v78_24_1), rfl⟩] : List (Cl 17)) h H U31 Z33 V33 rfl (zl := [.int .i64 0, .int .i64 0, .int .i64 0, .int .i64 0, S [], .int .i64 0, .int .i64 0, .int .i64 0, .bool false, .bool false, .int .i64 0, .int .i64 0, .int .i64 0, .bool false, .bool false, S [], .slice none 0 0, .int .i64 0, .int .i64 0, .int .i64 0, .int .i64 0, S [], .int .i64 0, .int .i64 0, .int .i64 0, .bool false, .bool false, .int .i64 0, .int .i64 0, .int .i64 0, .bool false, .bool false, S [], .slice none 0 0, .int .i64 0, .int .i64 0, .int .i64 0, .int .i64 0, S [], .int .i64 0, .int .i64 0, .int .i64 0, .bool false, .bool false, .int .i64 0, .int .i64 0, .int .i64 0, .bool false, .bool false, S [], .slice none 0 0]) kR (plA_get 3 17) O3 O51 rfl rfl rfl rfl rfl fun a v108_48 Z w hsub X H r108_48 h => ?_
 have r14_6_47 := r14_6_47.sub hsub
 have r76_20_1 := r76_20_1.sub hsub
 have r77_22_1 := r77_22_1.sub hsub
 have r78_24_1 := r78_24_1.sub hsub
 have r84_34_1 := r84_34_1.sub hsub
 have r87_36_1 := r87_36_1.sub hsub
 have r90_38_1 := r90_38_1.sub hsub
 have rp2_2 := rp2_2.sub hsub
 have rs_20 := rs_20.sub hsub
 have rs_22 := rs_22.sub hsub
 have rs_24 := rs_24.sub hsub
 have hz8_31 := hsub _ _ hz8_31
 have hz9_32 := hsub _ _ hz9_32
 have r108_48 : RdN Z v108_48 nodeEnc [y19.1, y21.1, y23.1] := ⟨_, r108_48, ⟨node_mk ⟨_, rfl, r76_20_1⟩, node_mk ⟨_, rfl, r77_22_1⟩, node_mk ⟨_, rfl, r78_24_1⟩, trivial⟩⟩
 obtain ⟨y49, f49, hS⟩ := bo hS
 refine st2 h rfl rfl rfl (dC call26 (tree_Apply_ok (x0 := (1 : Int)) (x1 := [y19.1, y21.1, y23.1]) f49 H.zin r108_48)) ?_
 rintro v_ w ⟨v109_50_1, rfl, r109_50_1, X⟩ a h
 obtain ⟨Z, hsub, hadd, H⟩ := H.adopt' X
 have r108_48 := r108_48.sub hsub
 have r14_6_47 := r14_6_47.sub hsub
 have r76_20_1 := r76_20_1.sub hsub
 have r77_22_1 := r77_22_1.sub hsub
 have r78_24_1 := r78_24_1.sub hsub
 have r84_34_1 := r84_34_1.sub hsub
 have r87_36_1 := r87_36_1.sub hsub
 have r90_38_1 := r90_38_1.sub hsub
 have rp2_2 := rp2_2.sub hsub
 have rs_20 := rs_20.sub hsub
 have rs_22 := rs_22.sub hsub
 have rs_24 := rs_24.sub hsub
 have hz8_31 := hsub _ _ hz8_31
 have hz9_32 := hsub _ _ hz9_32
 have r109_50_1 := r109_50_1.sub hadd
 obtain ⟨y51, f51, hS⟩ := bo hS
 refine st2 h rfl rfl rfl (d_callV [_] rfl rfl call29 O2 rfl (reckonerlaw13_EvalBranches_1_ok f51 H.zin r109_50_1 hz9_32 hz8_31 lp8 (hG.ext H.out))) ?_
 rintro v_ w ⟨v110_52_1, rfl, r110_52_1, X⟩ a h
 obtain ⟨Z, hsub, hadd, H⟩ := H.adopt' X
 have r108_48 := r108_48.sub hsub
 have r109_50_1 := r109_50_1.sub hsub
 have r14_6_47 := r14_6_47.sub hsub
 have r76_20_1 := r76_20_1.sub hsub
 have r77_22_1 := r77_22_1.sub hsub
 have r78_24_1 := r78_24_1.sub hsub
 have r84_34_1 := r84_34_1.sub hsub
 have r87_36_1 := r87_36_1.sub hsub
 have r90_38_1 := r90_38_1.sub hsub
 have rp2_2 := rp2_2.sub hsub
 have rs_20 := rs_20.sub hsub
 have rs_22 := rs_22.sub hsub
 have rs_24 := rs_24.sub hsub
 have hz8_31 := hsub _ _ hz8_31
 have hz9_32 := hsub _ _ hz9_32
 have r110_52_1 := r110_52_1.sub (ZB.empty.trans hadd)
 refine zA h H V51 O7 (fun x => [_, _, _, _, _, _, _, _, _, _, _, _, _, _, _, x]) fun a p53 w X H h => ?_
 refine z_store h H 15 rfl rfl rfl Z51 O7 rfl rfl (by obtain ⟨_, _, _, e_⟩ := (r110_52_1).form; subst e_; rfl) (by simp) O7 rfl (hl' := O16) rfl fun w H => ?_
 refine cN k h [11, 12, 13, 15, 16, 17, 18, 20, 21, 22] O10 fun h => ?_
 obtain ⟨J55, eJ55, hS⟩ := bv hS
 refine sqJ (fun a w => ∃ (Z : FZ) (s55 : Unit), J55 s55 = some res ∧ Fr 186 [(11, (pt p25)), (12, (pt p26)), (13, (pt p27)), (15, .func (.func 29) #[] #[(pt p30)]), (16, .func (.func 30) #[] #[]), (17, (pt p39)), (18, (pt p40)), (22, (pt p53))] a ∧ HZ w0 Zi Z [.blk p1 (Cel [sv_20] 23), .blk p2 (Cel [sv_22] 23), .blk p3 (Cel [xv2, xv2_2] 66), .blk p14 (Cel [sv_24] 23), .row 26 3 (.slice none 0 0) 0 [], .blk p25 (Cel (nL y19.1 v76_20_1) 33), .blk p26 (Cel (nL y21.1 v77_22_1) 33), .blk p27 (Cel (nL y23.1 v78_24_1) 33), .row 0 1 (.slice none 0 0) 0 [], .row 0 1 (.slice none 0 0) 0 [], .blk p39 (Cel [.int .i64 y33.v.k, .int .i64 y33.v.n, S y33.v.s, .int .i64 y33.c.s, .int .i64 y33.c.c, .int .i64 y33.c.r, v84_34_1] 51), .blk p40 (Cel [.int .i64 y35.v.k, .int .i64 y35.v.n, S y35.v.s, .int .i64 y35.c.s, .int .i64 y35.c.c, .int .i64 y35.c.r, v87_36_1] 51), .blk p41 (Cel [.int .i64 y37.v.k, .int .i64 y37.v.n, S y37.v.s, .int .i64 y37.c.s, .int .i64 y37.c.c, .int .i64 y37.c.r, v90_38_1] 51), .blk p43 (Cel (vL y42) 26), .blk p44 (Cel [.int .i64 s46.1, .int .i64 s46.2.1, S s46.2.2.1, .int .i64 s46.2.2.2.1, .int .i64 s46.2.2.2.2.1, .int .i64 s46.2.2.2.2.2.1, v14_6_47] 51), .blk p53 (Cel [.int .i64 y51.v.k, .int .i64 y51.v.n, S y51.v.s, .int .i64 y51.c.s, .int .i64 y51.c.c, .int .i64 y51.c.r, v110_52_1] 51)] w ∧ RdZ Z sv_20 1 (eI .u8) y19.2 ∧ RdZ Z sv_22 1 (eI .u8) y21.2 ∧ RdZ Z xv2_2 1 (eI .u8) x2.b ∧ RdZ Z sv_24 1 (eI .u8) y23.2 ∧ RdN Z v76_20_1 nodeEnc y19.1.l ∧ RdN Z v77_22_1 nodeEnc y21.1.l ∧ RdN Z v78_24_1 nodeEnc y23.1.l ∧ RdZ Z v84_34_1 3 cL y33.l ∧ RdZ Z v87_36_1 3 cL y35.l ∧ RdZ Z v90_38_1 3 cL y37.l ∧ RdZ Z v14_6_47 3 cL s46.2.2.2.2.2.2 ∧ RdZ Z v110_52_1 3 cL y51.l ∧ Z p29 = some (Cel ((y28 : List V).flatMap vL) 39) ∧ Z p30 = some (Cel [(pt p29)] 35)) ?_ ?_
 rintro a w ⟨Z, s55, hS, h, H, rs_20, rs_22, rp2_2, rs_24, r76_20_1, r77_22_1, r78_24_1, r84_34_1, r87_36_1, r90_38_1, r14_6_47, r110_52_1, hz8_31, hz9_32⟩
 subst eJ55
 refine rg fun K k => cps 1 h rfl fun a h => s1 h rfl (lA H 5 A33 Z33 O17) fun a h => ?_
 refine s1 h rfl (lA H 6 A33 Z33 O17) fun a h => ?_
 refine z_slice (enc := (Subtype.val (p := fun l : List Value => l.length = 17))) ([⟨(nL y19.1 v76_20_1), rfl⟩, ⟨(nL y21.1 v77_22_1), rfl⟩] : List (Cl 17)) h H U31 Z33 V33 rfl (zl := [.int .i64 0, .int .i64 0, .int .i64 0, .int .i64 0, S [], .int .i64 0, .int .i64 0, .int .i64 0, .bool false, .bool false, .int .i64 0, .int .i64 0, .int .i64 0, .bool false, .bool false, S [], .slice none 0 0, .int .i64 0, .int .i64 0, .int .i64 0, .int .i64 0, S [], .int .i64 0, .int .i64 0, .int .i64 0, .bool false, .bool false, .int .i64 0, .int .i64 0, .int .i64 0, .bool false, .bool false, S [], .slice none 0 0]) kR (plA_get 2 17) O2 O34 rfl rfl rfl rfl rfl fun a v128_56 Z w hsub X H r128_56 h => ?_
 have r110_52_1 := r110_52_1.sub hsub
 have r14_6_47 := r14_6_47.sub hsub
 have r76_20_1 := r76_20_1.sub hsub
 have r77_22_1 := r77_22_1.sub hsub
 have r78_24_1 := r78_24_1.sub hsub
 have r84_34_1 := r84_34_1.sub hsub
 have r87_36_1 := r87_36_1.sub hsub
 have r90_38_1 := r90_38_1.sub hsub
 have rp2_2 := rp2_2.sub hsub
 have rs_20 := rs_20.sub hsub
 have rs_22 := rs_22.sub hsub
 have rs_24 := rs_24.sub hsub
 have hz8_31 := hsub _ _ hz8_31
 have hz9_32 := hsub _ _ hz9_32
 have r128_56 : RdN Z v128_56 nodeEnc [y19.1, y21.1] := ⟨_, r128_56, ⟨node_mk ⟨_, rfl, r76_20_1⟩, node_mk ⟨_, rfl, r77_22_1⟩, trivial⟩⟩
 obtain ⟨y57, f57, hS⟩ := bo hS
 refine st2 h rfl rfl rfl (dC call26 (tree_Apply_ok (x0 := (2 : Int)) (x1 := [y19.1, y21.1]) f57 H.zin r128_56)) ?_
 rintro v_ w ⟨v129_58_1, rfl, r129_58_1, X⟩ a h
 obtain ⟨Z, hsub, hadd, H⟩ := H.adopt' X
 have r110_52_1 := r110_52_1.sub hsub
 have r128_56 := r128_56.sub hsub
 have r14_6_47 := r14_6_47.sub hsub
 have r76_20_1 := r76_20_1.sub hsub
 have r77_22_1 := r77_22_1.sub hsub
 have r78_24_1 := r78_24_1.sub hsub
 have r84_34_1 := r84_34_1.sub hsub
 have r87_36_1 := r87_36_1.sub hsub
 have r90_38_1 := r90_38_1.sub hsub
 have rp2_2 := rp2_2.sub hsub
 have rs_20 := rs_20.sub hsub
 have rs_22 := rs_22.sub hsub
 have rs_24 := rs_24.sub hsub
 have hz8_31 := hsub _ _ hz8_31
 have hz9_32 := hsub _ _ hz9_32
 have r129_58_1 := r129_58_1.sub hadd
 obtain ⟨y59, f59, hS⟩ := bo hS
 refine st2 h rfl rfl rfl (d_callV [_] rfl rfl call29 O2 rfl (reckonerlaw13_EvalBranches_1_ok f59 H.zin r129_58_1 hz9_32 hz8_31 lp8 (hG.ext H.out))) ?_
 rintro v_ w ⟨v130_60_1, rfl, r130_60_1, X⟩ a h
 obtain ⟨Z, hsub, hadd, H⟩ := H.adopt' X
 have r110_52_1 := r110_52_1.sub hsub
 have r128_56 := r128_56.sub hsub
 have r129_58_1 := r129_58_1.sub hsub
 have r14_6_47 := r14_6_47.sub hsub
 have r76_20_1 := r76_20_1.sub hsub
 have r77_22_1 := r77_22_1.sub hsub
 have r78_24_1 := r78_24_1.sub hsub
 have r84_34_1 := r84_34_1.sub hsub
 have r87_36_1 := r87_36_1.sub hsub
 have r90_38_1 := r90_38_1.sub hsub
 have rp2_2 := rp2_2.sub hsub
 have rs_20 := rs_20.sub hsub
 have rs_22 := rs_22.sub hsub
 have rs_24 := rs_24.sub hsub
 have hz8_31 := hsub _ _ hz8_31
 have hz9_32 := hsub _ _ hz9_32
 have r130_60_1 := r130_60_1.sub (ZB.empty.trans hadd)
 refine z_store h H 15 rfl rfl rfl Z51 O7 rfl rfl (by obtain ⟨_, _, _, e_⟩ := (r130_60_1).form; subst e_; rfl) (by simp) O7 rfl (hl' := O16) rfl fun w H => ?_
 refine cN k h [11, 12, 13, 15, 16, 17, 18, 22] O8 fun h => ?_
 refine sq <| rg fun K k => s1 h rfl (v_fieldAddr rfl U51 rfl Z26 rfl rfl) fun a h => ?_
 refine s1 h rfl (v_fieldAddr rfl U26 rfl Z3 rfl rfl) fun a h => ?_
 refine s1 h rfl (l1 H 10 A3) fun a h => ?_
 refine sB h hS rfl (v_eq rfl rfl) fun z62 e62 hS a h => ?_
 refine cps 1 h rfl fun a h => st_g h rfl rfl (gT rfl) rfl rfl (fun e0 => v_move rfl) fun a h => ?_
 refine st_g h rfl rfl (gT rfl) rfl rfl (fun e0 => lA H 15 A51 Z51 O7) fun a h => ?_
 refine st_g h rfl rfl (gT rfl) rfl rfl (fun e0 => lA H 10 A51 Z51 O7) fun a h => ?_
 refine st_g h rfl rfl (gT rfl) rfl rfl (fun e0 => lA H 11 A51 Z51 O7) fun a h => ?_
 refine st_gdS h rfl rfl (gT rfl) rfl rfl (fun e0 => d_sliceRN (E := rsEnc) (data := [y33, y35]) ([⟨[.int .i64 y33.v.k, .int .i64 y33.v.n, S y33.v.s, .int .i64 y33.c.s, .int .i64 y33.c.c, .int .i64 y33.c.r, v84_34_1], rfl⟩, ⟨[.int .i64 y35.v.k, .int .i64 y35.v.n, S y35.v.s, .int .i64 y35.c.s, .int .i64 y35.c.c, .int .i64 y35.c.r, v87_36_1], rfl⟩] : List (Cl 7)) H.zin (Ext.refl _) U70 Z51 V51 rfl (zl := [.int .i64 0, .int .i64 0, S [], .int .i64 0, .int .i64 0, .int .i64 0, .slice none 0 0, .int .i64 0, .int .i64 0, S [], .int .i64 0, .int .i64 0, .int .i64 0, .slice none 0 0]) kR (plA_get 2 7) O2 O14 (evs_c (eg e0 rfl) (evs_c (eg e0 rfl) evs_n)) rfl rfl rfl ⟨⟨_, rfl, r84_34_1.sub (ZB.of H.zin (Ext.refl _))⟩, ⟨_, rfl, r87_36_1.sub (ZB.of H.zin (Ext.refl _))⟩, trivial⟩) fun v140_63 w X gr140_63 a h => ?_
 obtain ⟨Z, hsub, hadd, H⟩ := H.adopt' X
 have r130_60_1 := r130_60_1.sub hsub
 have r14_6_47 := r14_6_47.sub hsub
 have r76_20_1 := r76_20_1.sub hsub
 have r77_22_1 := r77_22_1.sub hsub
 have r78_24_1 := r78_24_1.sub hsub
 have r84_34_1 := r84_34_1.sub hsub
 have r87_36_1 := r87_36_1.sub hsub
 have r90_38_1 := r90_38_1.sub hsub
 have rp2_2 := rp2_2.sub hsub
 have rs_20 := rs_20.sub hsub
 have rs_22 := rs_22.sub hsub
 have rs_24 := rs_24.sub hsub
 have hz8_31 := hsub _ _ hz8_31
 have hz9_32 := hsub _ _ hz9_32
 have gr140_63 := fun e0 => (gr140_63 e0).sub hadd
 obtain ⟨y64, f64, hS⟩ := bo hS
 refine st_gd (T := Ext) (V := .bool y64) h rfl rfl (gT rfl) rfl rfl (Ext.refl _) (fun e0 => d_callV O2 (eg e0 rfl) (evs_c (eg e0 rfl) (evs_c (eg e0 rfl) evs_n)) call30 O2 rfl (reckonerlaw13_EvalBranches_2_ok (x0 := y59) (x1 := [y33, y35]) (ifT e0 f64) (r130_60_1.hz H.zin) ((gr140_63 e0).hz H.zin))) fun w X a h => ?_
 have H := H.ext X
 obtain ⟨z65, e65, hS⟩ := bv hS
 refine st_g h rfl rfl (gT rfl) rfl rfl (fun e0 => vB e65 (v_not (eg e0 rfl))) fun a h => ?_
 refine sB h hS rfl (v_and rfl rfl) fun z66 e66 hS a h => ?_
 refine cps 1 h rfl fun a h => st_g h rfl rfl (gF rfl) rfl rfl (fun e0 => v_fieldAddr rfl U51 rfl Z26 rfl rfl) fun a h => ?_
 refine st_g h rfl rfl (gF rfl) rfl rfl (fun e0 => v_fieldAddr (eg e0 rfl) U26 rfl Z3 rfl rfl) fun a h => ?_
 refine st_g h rfl rfl (gF rfl) rfl rfl (fun e0 => v_load1 (eg e0 rfl) A3 (H.hp.get 10 rfl) rfl) fun a h => ?_
 obtain ⟨z67, e67, hS⟩ := bv hS
 refine st_g h rfl rfl (gF rfl) rfl rfl (fun e0 => vB e67 (v_ne (eg e0 rfl) rfl)) fun a h => ?_
 refine st_g h rfl rfl (gF rfl) rfl rfl (fun e0 => v_move (eg e0 rfl)) fun a h => ?_
 refine st_g h rfl rfl (ggT rfl) rfl rfl (fun e0 => v_move rfl) fun a h => ?_
 refine st_g h rfl rfl (ggT rfl) rfl rfl (fun e0 => lA H 15 A51 Z51 O7) fun a h => ?_
 refine st_g h rfl rfl (ggT rfl) rfl rfl (fun e0 => lA H 10 A51 Z51 O7) fun a h => ?_
 refine st_gdS h rfl rfl (ggT rfl) rfl rfl (fun e0 => d_sliceRN (E := rsEnc) (data := [y33]) ([⟨[.int .i64 y33.v.k, .int .i64 y33.v.n, S y33.v.s, .int .i64 y33.c.s, .int .i64 y33.c.c, .int .i64 y33.c.r, v84_34_1], rfl⟩] : List (Cl 7)) H.zin (Ext.refl _) U70 Z51 V51 rfl (zl := [.int .i64 0, .int .i64 0, S [], .int .i64 0, .int .i64 0, .int .i64 0, .slice none 0 0]) kR (plA_get 1 7) [_] O7 (evs_c (eg e0 rfl) evs_n) rfl rfl rfl ⟨⟨_, rfl, r84_34_1.sub (ZB.of H.zin (Ext.refl _))⟩, trivial⟩) fun v153_68 w X gr153_68 a h => ?_
 obtain ⟨Z, hsub, hadd, H⟩ := H.adopt' X
 have r130_60_1 := r130_60_1.sub hsub
 have r14_6_47 := r14_6_47.sub hsub
 have r76_20_1 := r76_20_1.sub hsub
 have r77_22_1 := r77_22_1.sub hsub
 have r78_24_1 := r78_24_1.sub hsub
 have r84_34_1 := r84_34_1.sub hsub
 have r87_36_1 := r87_36_1.sub hsub
 have r90_38_1 := r90_38_1.sub hsub
 have rp2_2 := rp2_2.sub hsub
 have rs_20 := rs_20.sub hsub
 have rs_22 := rs_22.sub hsub
 have rs_24 := rs_24.sub hsub
 have hz8_31 := hsub _ _ hz8_31
 have hz9_32 := hsub _ _ hz9_32
 have gr140_63 := fun e0 => (gr140_63 e0).sub hsub
 have gr153_68 := fun e0 => (gr153_68 e0).sub hadd
 obtain ⟨y69, f69, hS⟩ := bo hS
 refine st_gd (T := Ext) (V := .bool y69) h rfl rfl (ggT rfl) rfl rfl (Ext.refl _) (fun e0 => d_callV O2 (eg e0 rfl) (evs_c (eg e0 rfl) (evs_c (eg e0 rfl) evs_n)) call30 O2 rfl (reckonerlaw13_EvalBranches_2_ok (x0 := y59) (x1 := [y33]) (ifT e0 f69) (r130_60_1.hz H.zin) ((gr153_68 e0).hz H.zin))) fun w X a h => ?_
 have H := H.ext X
 obtain ⟨z70, e70, hS⟩ := bv hS
 refine st_g h rfl rfl (ggT rfl) rfl rfl (fun e0 => vB e70 (v_not (eg e0 rfl))) fun a h => ?_
 obtain ⟨z71, e71, hS⟩ := bv hS
 refine st_g h rfl rfl (gF rfl) rfl rfl (fun e0 => vB e71 (v_and (eg e0 rfl) (egn e0 rfl))) fun a h => ?_
 refine sB h hS rfl (v_or rfl rfl) fun z72 e72 hS a h => ?_
 refine cN k h [11, 12, 13, 15, 16, 18, 22, 157] O8 fun h => ?_
 refine cI h hS rfl (fun ec73 hS => ?_) fun ec73 hS => ?_
 refine rg fun K k => cps 1 h rfl fun a h => cN k h [6] [_] fun h => ?_
 cases hS
 refine r1 hr h rfl rfl ⟨rfl, H.out⟩
 refine c_skip <| flT 9 h fun K k => ?_
 refine fcps 1 rfl ?_
 refine fC hS rfl (fun y74 f74 w X => dC call14 (value_Num_ok f74 :)) fun y74 hS => ?_
 obtain ⟨y75, f75, hS⟩ := bo hS
 refine f_op [159] rfl rfl rfl rfl false (.rel (fun w' v' => ∃ v160_76_1, v' = .agg #[.int .i64 y75.k, .int .i64 y75.op, .int .i64 y75.v.k, .int .i64 y75.v.n, S y75.v.s, .int .i64 y75.a.c.s, .int .i64 y75.a.c.c, .int .i64 y75.a.c.r, .bool y75.a.ac, .bool y75.a.ar, .int .i64 y75.b.c.s, .int .i64 y75.b.c.c, .int .i64 y75.b.c.r, .bool y75.b.ac, .bool y75.b.ar, S y75.nm, v160_76_1] ∧ RdN (ZB Z w.heap.size w') v160_76_1 nodeEnc y75.l)) (fun w w' v X h => by obtain ⟨v160_76_1, hv, hr0⟩ := h; exact ⟨_, hv, hr0.sub (ZB.grow X)⟩) (fun w X => ?_) ?_
 skip
 exact have Hs := ZB.of H.zin X; have H := H.ext X; Does.doesR (dC call32 (tree_Value_ok (x0 := y74) f75)) (fun v w' hr => by obtain ⟨v160_76_1, hv, hr0, X'⟩ := hr; exact ⟨⟨_, hv, hr0.sub (ZB.back X X')⟩, X'⟩)
 refine F1 rfl (fun w X => have H := H.ext X; lA H 5 A33 Z33 O17) ?_
 refine F1 rfl (fun w X => have H := H.ext X; lA H 6 A33 Z33 O17) ?_
 refine F1 rfl (fun w X => have H := H.ext X; lA H 7 A33 Z33 O17) ?_
 refine f_op [160, 161, 162, 163] rfl rfl rfl rfl false (.rel (fun w' v' => RdN (ZB Z w.heap.size w') v' nodeEnc ([y75, y19.1, y21.1, y23.1] : List (Nd)))) rn_stab (fun w X => ?_) ?_
 intro v160 h160
 obtain ⟨v160_76_1, rfl, r160_76_1⟩ := h160
 exact d_sliceRN (E := nodeEnc) (data := [y75, y19.1, y21.1, y23.1]) ([⟨(nL y75 v160_76_1), rfl⟩, ⟨(nL y19.1 v76_20_1), rfl⟩, ⟨(nL y21.1 v77_22_1), rfl⟩, ⟨(nL y23.1 v78_24_1), rfl⟩] : List (Cl 17)) H.zin X U31 Z33 V33 rfl (zl := [.int .i64 0, .int .i64 0, .int .i64 0, .int .i64 0, S [], .int .i64 0, .int .i64 0, .int .i64 0, .bool false, .bool false, .int .i64 0, .int .i64 0, .int .i64 0, .bool false, .bool false, S [], .slice none 0 0, .int .i64 0, .int .i64 0, .int .i64 0, .int .i64 0, S [], .int .i64 0, .int .i64 0, .int .i64 0, .bool false, .bool false, .int .i64 0, .int .i64 0, .int .i64 0, .bool false, .bool false, S [], .slice none 0 0, .int .i64 0, .int .i64 0, .int .i64 0, .int .i64 0, S [], .int .i64 0, .int .i64 0, .int .i64 0, .bool false, .bool false, .int .i64 0, .int .i64 0, .int .i64 0, .bool false, .bool false, S [], .slice none 0 0, .int .i64 0, .int .i64 0, .int .i64 0, .int .i64 0, S [], .int .i64 0, .int .i64 0, .int .i64 0, .bool false, .bool false, .int .i64 0, .int .i64 0, .int .i64 0, .bool false, .bool false, S [], .slice none 0 0]) kR (plA_get 4 17) [(nA y75 v160_76_1), (nA y19.1 v76_20_1), (nA y21.1 v77_22_1), (nA y23.1 v78_24_1)] [.int .i64 y75.k, .int .i64 y75.op, .int .i64 y75.v.k, .int .i64 y75.v.n, S y75.v.s, .int .i64 y75.a.c.s, .int .i64 y75.a.c.c, .int .i64 y75.a.c.r, .bool y75.a.ac, .bool y75.a.ar, .int .i64 y75.b.c.s, .int .i64 y75.b.c.c, .int .i64 y75.b.c.r, .bool y75.b.ac, .bool y75.b.ar, S y75.nm, v160_76_1, .int .i64 y19.1.k, .int .i64 y19.1.op, .int .i64 y19.1.v.k, .int .i64 y19.1.v.n, S y19.1.v.s, .int .i64 y19.1.a.c.s, .int .i64 y19.1.a.c.c, .int .i64 y19.1.a.c.r, .bool y19.1.a.ac, .bool y19.1.a.ar, .int .i64 y19.1.b.c.s, .int .i64 y19.1.b.c.c, .int .i64 y19.1.b.c.r, .bool y19.1.b.ac, .bool y19.1.b.ar, S y19.1.nm, v76_20_1, .int .i64 y21.1.k, .int .i64 y21.1.op, .int .i64 y21.1.v.k, .int .i64 y21.1.v.n, S y21.1.v.s, .int .i64 y21.1.a.c.s, .int .i64 y21.1.a.c.c, .int .i64 y21.1.a.c.r, .bool y21.1.a.ac, .bool y21.1.a.ar, .int .i64 y21.1.b.c.s, .int .i64 y21.1.b.c.c, .int .i64 y21.1.b.c.r, .bool y21.1.b.ac, .bool y21.1.b.ar, S y21.1.nm, v77_22_1, .int .i64 y23.1.k, .int .i64 y23.1.op, .int .i64 y23.1.v.k, .int .i64 y23.1.v.n, S y23.1.v.s, .int .i64 y23.1.a.c.s, .int .i64 y23.1.a.c.c, .int .i64 y23.1.a.c.r, .bool y23.1.a.ac, .bool y23.1.a.ar, .int .i64 y23.1.b.c.s, .int .i64 y23.1.b.c.c, .int .i64 y23.1.b.c.r, .bool y23.1.b.ac, .bool y23.1.b.ar, S y23.1.nm, v78_24_1] rfl kR rfl kR ⟨node_mk ⟨_, rfl, r160_76_1⟩, node_mk ⟨_, rfl, r76_20_1.sub (ZB.of H.zin X)⟩, node_mk ⟨_, rfl, r77_22_1.sub (ZB.of H.zin X)⟩, node_mk ⟨_, rfl, r78_24_1.sub (ZB.of H.zin X)⟩, trivial⟩
 obtain ⟨y77, f77, hS⟩ := bo hS
 refine f_op [164] rfl rfl rfl rfl false (.rel (fun w' v' => ∃ v165_78_1, v' = .agg #[.int .i64 y77.k, .int .i64 y77.op, .int .i64 y77.v.k, .int .i64 y77.v.n, S y77.v.s, .int .i64 y77.a.c.s, .int .i64 y77.a.c.c, .int .i64 y77.a.c.r, .bool y77.a.ac, .bool y77.a.ar, .int .i64 y77.b.c.s, .int .i64 y77.b.c.c, .int .i64 y77.b.c.r, .bool y77.b.ac, .bool y77.b.ar, S y77.nm, v165_78_1] ∧ RdN (ZB Z w.heap.size w') v165_78_1 nodeEnc y77.l)) (fun w w' v X h => by obtain ⟨v165_78_1, hv, hr0⟩ := h; exact ⟨_, hv, hr0.sub (ZB.grow X)⟩) (fun w X => ?_) ?_
 intro v164 h164
 exact have Hs := ZB.of H.zin X; have H := H.ext X; Does.doesR (dC call26 (tree_Apply_ok (x0 := (5 : Int)) (x1 := [y75, y19.1, y21.1, y23.1]) f77 (ZB.inn H.zin) h164)) (fun v w' hr => by obtain ⟨v165_78_1, hv, hr0, X'⟩ := hr; exact ⟨⟨_, hv, hr0.sub (ZB.back2 X X')⟩, X'⟩)
 obtain ⟨y79, f79, hS⟩ := bo hS
 refine f_op [158, 165] rfl rfl rfl rfl false (.rel (fun w' v' => ∃ v166_80_1, v' = .agg #[.int .i64 y79.v.k, .int .i64 y79.v.n, S y79.v.s, .int .i64 y79.c.s, .int .i64 y79.c.c, .int .i64 y79.c.r, v166_80_1] ∧ RdZ (ZB Z w.heap.size w') v166_80_1 3 cL y79.l)) (fun w w' v X h => by obtain ⟨v166_80_1, hv, hr0⟩ := h; exact ⟨_, hv, hr0.sub (ZB.grow X)⟩) (fun w X => ?_) ?_
 intro v165 h165
 obtain ⟨v165_78_1, rfl, r165_78_1⟩ := h165
 exact have Hs := ZB.of H.zin X; have H := H.ext X; Does.doesR (d_callV [_] rfl rfl call29 O2 rfl (reckonerlaw13_EvalBranches_1_ok f79 (ZB.inn H.zin) r165_78_1 (Hs _ _ hz9_32) (Hs _ _ hz8_31) lp8 (hG.ext H.out))) (fun v w' hr => by obtain ⟨v166_80_1, hv, hr0, X'⟩ := hr; exact ⟨⟨_, hv, hr0.sub (ZB.back X X')⟩, X'⟩)
 refine fn_ ?_
 intro a w X hR hA
 obtain ⟨_, ⟨v166_80_1, rfl, r166_80_1⟩, h⟩ := hR.out [11, 12, 13, 15, 16, 18, 22, 166]
 have h : Fr 186 [(166, _), (22, _), (18, _), (16, _), (15, _), (13, _), (12, _), (11, _)] a := h
 obtain ⟨Z, hsub, hadd, H⟩ := H.adopt' X
 have r130_60_1 := r130_60_1.sub hsub
 have r14_6_47 := r14_6_47.sub hsub
 have r76_20_1 := r76_20_1.sub hsub
 have r77_22_1 := r77_22_1.sub hsub
 have r78_24_1 := r78_24_1.sub hsub
 have r84_34_1 := r84_34_1.sub hsub
 have r87_36_1 := r87_36_1.sub hsub
 have r90_38_1 := r90_38_1.sub hsub
 have rp2_2 := rp2_2.sub hsub
 have rs_20 := rs_20.sub hsub
 have rs_22 := rs_22.sub hsub
 have rs_24 := rs_24.sub hsub
 have hz8_31 := hsub _ _ hz8_31
 have hz9_32 := hsub _ _ hz9_32
 have r166_80_1 := r166_80_1.sub hadd
 refine z_store h H 15 rfl rfl rfl Z51 O7 rfl rfl (by obtain ⟨_, _, _, e_⟩ := (r166_80_1).form; subst e_; rfl) (by simp) O7 rfl (hl' := O16) rfl fun w H => ?_
 refine cz k <| fl h ?_
 refine fcps 1 rfl ?_
 refine F1 rfl (fun w X => have H := H.ext X; lA H 15 A51 Z51 O7) ?_
 refine F1 rfl (fun w X => have H := H.ext X; lA H 11 A51 Z51 O7) ?_
 refine f_op [169] rfl rfl rfl rfl false (.rel (fun w' v' => RdN (ZB Z w.heap.size w') v' rsEnc ([y35] : List (Rs)))) rn_stab (fun w X => ?_) ?_
 skip
 exact d_sliceRN (E := rsEnc) (data := [y35]) ([⟨[.int .i64 y35.v.k, .int .i64 y35.v.n, S y35.v.s, .int .i64 y35.c.s, .int .i64 y35.c.c, .int .i64 y35.c.r, v87_36_1], rfl⟩] : List (Cl 7)) H.zin X U70 Z51 V51 rfl (zl := [.int .i64 0, .int .i64 0, S [], .int .i64 0, .int .i64 0, .int .i64 0, .slice none 0 0]) kR (plA_get 1 7) [_] O7 rfl rfl rfl rfl ⟨⟨_, rfl, r87_36_1.sub (ZB.of H.zin X)⟩, trivial⟩
 obtain ⟨y81, f81, hS⟩ := bo hS
 refine f_op [167, 168, 170] rfl rfl rfl rfl false (.eq (.bool y81)) trivial (fun w X => ?_) ?_
 intro v170 h170
 exact have Hs := ZB.of H.zin X; have H := H.ext X; Does.doesF (d_callV O2 rfl rfl call30 O2 rfl (reckonerlaw13_EvalBranches_2_ok (x0 := y79) (x1 := [y35]) f81 (r166_80_1.hz H.zin) (h170.hz (ZB.inn H.zin))))
 refine fcps 1 rfl ?_
 refine f_g [15, 172] rfl rfl rfl (gT rfl) rfl rfl (fun e0 w X => v_move rfl) ?_
 obtain ⟨y82, f82, hS⟩ := bo hS
 refine f_gd (V := (vA y82)) [172] rfl rfl rfl (gT rfl) rfl rfl (fun e0 w X => dC call14 (value_Num_ok (x0 := (4000000 : Int)) (ifT e0 f82))) ?_
 obtain ⟨y83, f83, hS⟩ := bo hS
 refine f_gR (R := (fun w' v' => ∃ v175_84_1, v' = .agg #[.int .i64 y83.k, .int .i64 y83.op, .int .i64 y83.v.k, .int .i64 y83.v.n, S y83.v.s, .int .i64 y83.a.c.s, .int .i64 y83.a.c.c, .int .i64 y83.a.c.r, .bool y83.a.ac, .bool y83.a.ar, .int .i64 y83.b.c.s, .int .i64 y83.b.c.c, .int .i64 y83.b.c.r, .bool y83.b.ac, .bool y83.b.ar, S y83.nm, v175_84_1] ∧ RdN (ZB Z w.heap.size w') v175_84_1 nodeEnc y83.l)) (c := y81) [174, 172] rfl rfl rfl rfl rfl (fun w w' v X h => by obtain ⟨v175_84_1, hv, hr0⟩ := h; exact ⟨_, hv, hr0.sub (ZB.grow X)⟩) (fun w X => ?_) ?_
 skip
 exact ⟨(gT rfl), fun e0 => have Hs := ZB.of H.zin X; have H := H.ext X; Does.doesR (d_call [_] (evs_c (eg e0 rfl) evs_n) call32 (tree_Value_ok (x0 := y82) (ifT e0 f83))) (fun v w' hr => by obtain ⟨v175_84_1, hv, hr0, X'⟩ := hr; exact ⟨⟨_, hv, hr0.sub (ZB.back X X')⟩, X'⟩)⟩
 refine f_g [11, 172] rfl rfl rfl (gT rfl) rfl rfl (fun e0 w X => have H := H.ext X; lA H 5 A33 Z33 O17) ?_
 refine f_g [12, 172] rfl rfl rfl (gT rfl) rfl rfl (fun e0 w X => have H := H.ext X; lA H 6 A33 Z33 O17) ?_
 refine f_g [13, 172] rfl rfl rfl (gT rfl) rfl rfl (fun e0 w X => have H := H.ext X; lA H 7 A33 Z33 O17) ?_
 refine f_gR (R := (fun w' v' => RdN (ZB Z w.heap.size w') v' nodeEnc ([y83, y19.1, y21.1, y23.1] : List (Nd)))) (c := y81) [175, 176, 177, 178, 172] rfl rfl rfl rfl rfl rn_stab (fun w X => ?_) ?_
 intro v175 h175
 refine ⟨(gT rfl), fun e0 => ?_⟩
 obtain ⟨v175_84_1, rfl, r175_84_1⟩ := h175 e0
 exact d_sliceRN (E := nodeEnc) (data := [y83, y19.1, y21.1, y23.1]) ([⟨(nL y83 v175_84_1), rfl⟩, ⟨(nL y19.1 v76_20_1), rfl⟩, ⟨(nL y21.1 v77_22_1), rfl⟩, ⟨(nL y23.1 v78_24_1), rfl⟩] : List (Cl 17)) H.zin X U31 Z33 V33 rfl (zl := [.int .i64 0, .int .i64 0, .int .i64 0, .int .i64 0, S [], .int .i64 0, .int .i64 0, .int .i64 0, .bool false, .bool false, .int .i64 0, .int .i64 0, .int .i64 0, .bool false, .bool false, S [], .slice none 0 0, .int .i64 0, .int .i64 0, .int .i64 0, .int .i64 0, S [], .int .i64 0, .int .i64 0, .int .i64 0, .bool false, .bool false, .int .i64 0, .int .i64 0, .int .i64 0, .bool false, .bool false, S [], .slice none 0 0, .int .i64 0, .int .i64 0, .int .i64 0, .int .i64 0, S [], .int .i64 0, .int .i64 0, .int .i64 0, .bool false, .bool false, .int .i64 0, .int .i64 0, .int .i64 0, .bool false, .bool false, S [], .slice none 0 0, .int .i64 0, .int .i64 0, .int .i64 0, .int .i64 0, S [], .int .i64 0, .int .i64 0, .int .i64 0, .bool false, .bool false, .int .i64 0, .int .i64 0, .int .i64 0, .bool false, .bool false, S [], .slice none 0 0]) kR (plA_get 4 17) [(nA y83 v175_84_1), (nA y19.1 v76_20_1), (nA y21.1 v77_22_1), (nA y23.1 v78_24_1)] [.int .i64 y83.k, .int .i64 y83.op, .int .i64 y83.v.k, .int .i64 y83.v.n, S y83.v.s, .int .i64 y83.a.c.s, .int .i64 y83.a.c.c, .int .i64 y83.a.c.r, .bool y83.a.ac, .bool y83.a.ar, .int .i64 y83.b.c.s, .int .i64 y83.b.c.c, .int .i64 y83.b.c.r, .bool y83.b.ac, .bool y83.b.ar, S y83.nm, v175_84_1, .int .i64 y19.1.k, .int .i64 y19.1.op, .int .i64 y19.1.v.k, .int .i64 y19.1.v.n, S y19.1.v.s, .int .i64 y19.1.a.c.s, .int .i64 y19.1.a.c.c, .int .i64 y19.1.a.c.r, .bool y19.1.a.ac, .bool y19.1.a.ar, .int .i64 y19.1.b.c.s, .int .i64 y19.1.b.c.c, .int .i64 y19.1.b.c.r, .bool y19.1.b.ac, .bool y19.1.b.ar, S y19.1.nm, v76_20_1, .int .i64 y21.1.k, .int .i64 y21.1.op, .int .i64 y21.1.v.k, .int .i64 y21.1.v.n, S y21.1.v.s, .int .i64 y21.1.a.c.s, .int .i64 y21.1.a.c.c, .int .i64 y21.1.a.c.r, .bool y21.1.a.ac, .bool y21.1.a.ar, .int .i64 y21.1.b.c.s, .int .i64 y21.1.b.c.c, .int .i64 y21.1.b.c.r, .bool y21.1.b.ac, .bool y21.1.b.ar, S y21.1.nm, v77_22_1, .int .i64 y23.1.k, .int .i64 y23.1.op, .int .i64 y23.1.v.k, .int .i64 y23.1.v.n, S y23.1.v.s, .int .i64 y23.1.a.c.s, .int .i64 y23.1.a.c.c, .int .i64 y23.1.a.c.r, .bool y23.1.a.ac, .bool y23.1.a.ar, .int .i64 y23.1.b.c.s, .int .i64 y23.1.b.c.c, .int .i64 y23.1.b.c.r, .bool y23.1.b.ac, .bool y23.1.b.ar, S y23.1.nm, v78_24_1] (evs_c rfl (evs_c (eg e0 rfl) (evs_c (eg e0 rfl) (evs_c (eg e0 rfl) evs_n)))) kR rfl kR ⟨node_mk ⟨_, rfl, r175_84_1⟩, node_mk ⟨_, rfl, r76_20_1.sub (ZB.of H.zin X)⟩, node_mk ⟨_, rfl, r77_22_1.sub (ZB.of H.zin X)⟩, node_mk ⟨_, rfl, r78_24_1.sub (ZB.of H.zin X)⟩, trivial⟩
 obtain ⟨y85, f85, hS⟩ := bo hS
 refine f_gR (R := (fun w' v' => ∃ v180_86_1, v' = .agg #[.int .i64 y85.k, .int .i64 y85.op, .int .i64 y85.v.k, .int .i64 y85.v.n, S y85.v.s, .int .i64 y85.a.c.s, .int .i64 y85.a.c.c, .int .i64 y85.a.c.r, .bool y85.a.ac, .bool y85.a.ar, .int .i64 y85.b.c.s, .int .i64 y85.b.c.c, .int .i64 y85.b.c.r, .bool y85.b.ac, .bool y85.b.ar, S y85.nm, v180_86_1] ∧ RdN (ZB Z w.heap.size w') v180_86_1 nodeEnc y85.l)) (c := y81) [179, 172] rfl rfl rfl rfl rfl (fun w w' v X h => by obtain ⟨v180_86_1, hv, hr0⟩ := h; exact ⟨_, hv, hr0.sub (ZB.grow X)⟩) (fun w X => ?_) ?_
 intro v179 h179
 exact ⟨(gT rfl), fun e0 => have Hs := ZB.of H.zin X; have H := H.ext X; Does.doesR (dC call26 (tree_Apply_ok (x0 := (5 : Int)) (x1 := [y83, y19.1, y21.1, y23.1]) (ifT e0 f85) (ZB.inn H.zin) (h179 e0))) (fun v w' hr => by obtain ⟨v180_86_1, hv, hr0, X'⟩ := hr; exact ⟨⟨_, hv, hr0.sub (ZB.back2 X X')⟩, X'⟩)⟩
 obtain ⟨y87, f87, hS⟩ := bo hS
 refine f_gR (R := (fun w' v' => ∃ v181_88_1, v' = .agg #[.int .i64 y87.v.k, .int .i64 y87.v.n, S y87.v.s, .int .i64 y87.c.s, .int .i64 y87.c.c, .int .i64 y87.c.r, v181_88_1] ∧ RdZ (ZB Z w.heap.size w') v181_88_1 3 cL y87.l)) (c := y81) [173, 180, 172] rfl rfl rfl rfl rfl (fun w w' v X h => by obtain ⟨v181_88_1, hv, hr0⟩ := h; exact ⟨_, hv, hr0.sub (ZB.grow X)⟩) (fun w X => ?_) ?_
 intro v180 h180
 refine ⟨(gT rfl), fun e0 => ?_⟩
 obtain ⟨v180_86_1, rfl, r180_86_1⟩ := h180 e0
 exact have Hs := ZB.of H.zin X; have H := H.ext X; Does.doesR (d_callV [_] (eg e0 rfl) rfl call29 O2 rfl (reckonerlaw13_EvalBranches_1_ok (ifT e0 f87) (ZB.inn H.zin) r180_86_1 (Hs _ _ hz9_32) (Hs _ _ hz8_31) lp8 (hG.ext H.out))) (fun v w' hr => by obtain ⟨v181_88_1, hv, hr0, X'⟩ := hr; exact ⟨⟨_, hv, hr0.sub (ZB.back X X')⟩, X'⟩)
 refine f_gE (V := (vA y87.v)) (c := y81) [181, 172] rfl rfl rfl rfl rfl (fun w X => ?_) ?_
 intro v181 h181
 refine ⟨(gT rfl), fun e0 => ?_⟩
 obtain ⟨v181_88_1, rfl, r181_88_1⟩ := h181 e0
 exact (v_fieldA O3 rfl U51 rfl A26 Z26 rfl).doesF
 obtain ⟨y89, f89, hS⟩ := bo hS
 refine f_gd (V := (vA y89)) [172] rfl rfl rfl (gT rfl) rfl rfl (fun e0 w X => dC call21 (value_Fail_ok (x0 := (2 : Int)) (ifT e0 f89))) ?_
 obtain ⟨z90, e90, hS⟩ := bv hS
 refine f_g [182, 183, 172] rfl rfl rfl (gT rfl) rfl rfl (fun e0 w X => vB e90 (v_aggeq (eg e0 rfl) (eg e0 rfl) age26 (agq26 _ _ _ _ _ _))) ?_
 refine fB hS rfl (fun w X => v_and rfl rfl) fun z91 e91 hS => ?_
 refine fcps 1 rfl ?_
 refine fE [6] [_] H fun a w X H h => ?_
 cases hS
 refine r1 hr h rfl rfl ⟨rfl, H.out⟩
 refine rg fun K k => s1 h rfl (v_fieldAddr rfl U26 rfl Z3 rfl rfl) fun a h => ?_
 refine s1 h rfl (l1 H 13 A3) fun a h => ?_
 refine sB h hS rfl (v_eq rfl rfl) fun z92 e92 hS a h => ?_
 refine cz k <| cI h hS rfl (fun ec93 hS => ?_) fun ec93 hS => ?_
 refine rg fun K k => s1 h rfl (v_fieldAddr rfl U51 rfl Z26 rfl rfl) fun a h => ?_
 refine s1 h rfl (lA H 15 A26 Z26 O3) fun a h => ?_
 refine s1 h rfl (lA H 13 A26 Z26 O3) fun a h => ?_
 refine sB h hS rfl (v_aggne rfl rfl age26 (agq26 _ _ _ _ _ _)) fun z94 e94 hS a h => ?_
 refine cN k h [11, 12, 13, 15, 16, 17, 18, 22, 117] O9 fun h => ?_
 refine cI h hS rfl (fun ec95 hS => ?_) fun ec95 hS => ?_
 refine rg fun K k => cps 1 h rfl fun a h => cN k h [6] [_] fun h => ?_
 cases hS
 refine r1 hr h rfl rfl ⟨rfl, H.out⟩
 exact c_skip (exU1 ⟨hS, h.to, H, rs_20, rs_22, rp2_2, rs_24, r76_20_1, r77_22_1, r78_24_1, r84_34_1, r87_36_1, r90_38_1, r14_6_47, r110_52_1, hz8_31, hz9_32⟩)
 refine rg fun K k => cps 1 h rfl fun a h => s1 h rfl (lA H 15 A51 Z51 O7) fun a h => ?_
 refine s1 h rfl (lA H 10 A51 Z51 O7) fun a h => ?_
 refine s1 h rfl (lA H 14 A51 Z51 O7) fun a h => ?_
 refine z_slice (enc := (Subtype.val (p := fun l : List Value => l.length = 7))) ([⟨[.int .i64 y33.v.k, .int .i64 y33.v.n, S y33.v.s, .int .i64 y33.c.s, .int .i64 y33.c.c, .int .i64 y33.c.r, v84_34_1], rfl⟩, ⟨[.int .i64 s46.1, .int .i64 s46.2.1, S s46.2.2.1, .int .i64 s46.2.2.2.1, .int .i64 s46.2.2.2.2.1, .int .i64 s46.2.2.2.2.2.1, v14_6_47], rfl⟩] : List (Cl 7)) h H U70 Z51 V51 rfl (zl := [.int .i64 0, .int .i64 0, S [], .int .i64 0, .int .i64 0, .int .i64 0, .slice none 0 0, .int .i64 0, .int .i64 0, S [], .int .i64 0, .int .i64 0, .int .i64 0, .slice none 0 0]) kR (plA_get 2 7) O2 O14 rfl rfl rfl rfl rfl fun a v122_96 Z w hsub X H r122_96 h => ?_
 have r110_52_1 := r110_52_1.sub hsub
 have r14_6_47 := r14_6_47.sub hsub
 have r76_20_1 := r76_20_1.sub hsub
 have r77_22_1 := r77_22_1.sub hsub
 have r78_24_1 := r78_24_1.sub hsub
 have r84_34_1 := r84_34_1.sub hsub
 have r87_36_1 := r87_36_1.sub hsub
 have r90_38_1 := r90_38_1.sub hsub
 have rp2_2 := rp2_2.sub hsub
 have rs_20 := rs_20.sub hsub
 have rs_22 := rs_22.sub hsub
 have rs_24 := rs_24.sub hsub
 have hz8_31 := hsub _ _ hz8_31
 have hz9_32 := hsub _ _ hz9_32
 have r122_96 : RdN Z v122_96 rsEnc [y33, (⟨(⟨s46.1, s46.2.1, s46.2.2.1⟩ : V), (⟨s46.2.2.2.1, s46.2.2.2.2.1, s46.2.2.2.2.2.1⟩ : C), s46.2.2.2.2.2.2⟩ : Rs)] := ⟨_, r122_96, ⟨⟨_, rfl, r84_34_1⟩, ⟨_, rfl, r14_6_47⟩, trivial⟩⟩
 refine sC h H hS rfl (fun y97 f97 => d_callV O2 rfl rfl call30 O2 rfl (reckonerlaw13_EvalBranches_2_ok f97 (r110_52_1.hz H.zin) (r122_96.hz H.zin) :)) fun y97 hS w X H a h => ?_
 refine sB h hS rfl (v_not rfl) fun z98 e98 hS a h => ?_
 refine cN k h [11, 12, 13, 15, 16, 17, 18, 22, 124] O9 fun h => ?_
 refine cI h hS rfl (fun ec99 hS => ?_) fun ec99 hS => ?_
 refine rg fun K k => cps 1 h rfl fun a h => cN k h [6] [_] fun h => ?_
 cases hS
 refine r1 hr h rfl rfl ⟨rfl, H.out⟩
 exact c_skip (exU1 ⟨hS, h.to, H, rs_20, rs_22, rp2_2, rs_24, r76_20_1, r77_22_1, r78_24_1, r84_34_1, r87_36_1, r90_38_1, r14_6_47, r110_52_1, hz8_31, hz9_32⟩)
 refine rg fun K k => s1 h rfl (v_fieldAddr rfl U26 rfl Z3 rfl rfl) fun a h => ?_
 refine s1 h rfl (l1 H 13 A3) fun a h => ?_
 refine sB h hS rfl (v_eq rfl rfl) fun z100 e100 hS a h => ?_
 refine cps 1 h rfl fun a h => st_g h rfl rfl (gT rfl) rfl rfl (fun e0 => v_fieldAddr rfl U26 rfl Z2 rfl rfl) fun a h => ?_
 refine st_g h rfl rfl (gT rfl) rfl rfl (fun e0 => v_load1 (eg e0 rfl) A2 (H.hp.get 13 rfl) rfl) fun a h => ?_
 obtain ⟨z101, e101, hS⟩ := bv hS
 refine st_g h rfl rfl (gT rfl) rfl rfl (fun e0 => vB e101 (v_eq (eg e0 rfl) rfl)) fun a h => ?_
 refine sB h hS rfl (v_and rfl rfl) fun z102 e102 hS a h => ?_
 refine cN k h [11, 12, 13, 15, 16, 17, 18, 20, 21, 102] O10 fun h => ?_
 refine cI h hS rfl (fun ec103 hS => ?_) fun ec103 hS => ?_
 refine c_lregion <| s1 h rfl (lA H 11 A51 Z51 O7) fun a h => ?_
 refine z_store h H 14 rfl rfl rfl Z51 O7 rfl rfl (by obtain ⟨_, _, _, e_⟩ := (r87_36_1).form; subst e_; rfl) (by simp) O7 rfl (hl' := O15) rfl fun w H => ?_
 refine c_lnil ?_
 exact ex3 ⟨hS, h.to, H, r87_36_1, rs_20, rs_22, rp2_2, rs_24, r76_20_1, r77_22_1, r78_24_1, r84_34_1, r87_36_1, r90_38_1, hz8_31, hz9_32⟩
 exact c_skip (ex3 ⟨hS, h.to, H, r90_38_1, rs_20, rs_22, rp2_2, rs_24, r76_20_1, r77_22_1, r78_24_1, r84_34_1, r87_36_1, r90_38_1, hz8_31, hz9_32⟩)
 refine rg fun K k => s1 (V := .pointer (some ⟨p3, 1, none⟩)) h rfl (v_idxArrP (p := 1) underlying66 sizeOf22 rfl rfl (by decide)) fun a h => ?_
 refine s1 h rfl (l1 H 2 isAgg22) fun a h => ?_
 refine s1 h rfl (v_len U22 rfl (rp2_2.at H.zin)) fun a h => ?_
 refine cps 1 h rfl fun a h => cN k h [3, 4, 7, 8, 42, 43, 44] O7 fun h => ?_
 refine lb ?_
 obtain ⟨B105, eB105, hS⟩ := bv hS
 refine lpJ (fun mu_ a w => ∃ (Z : FZ) (s105 : Int × (List (V))) (sv107 : Value), loopF B105 mu_ s105 = some res ∧ Fr 186 [(3, (pt p1)), (4, (pt p2)), (7, (pt p14)), (8, sv107), (42, xv2_2), (43, .int .i64 (x2.b.length : Int)), (44, .int .i64 s105.1)] a ∧ HZ w0 Zi Z [.blk p1 (Cel [xv0] 23), .blk p2 (Cel [xv1] 23), .blk p3 (Cel [xv2, xv2_2] 66), .blk p14 (Cel [xv2] 23), .row 26 3 sv107 (s105.2 : List (V)).length ((s105.2 : List (V)).flatMap vL)] w ∧ RdZ Z xv2_2 1 (eI .u8) x2.b ∧ RdZ Z xv0 1 (eI .u8) x0 ∧ RdZ Z xv1 1 (eI .u8) x1 ∧ RdZ Z xv2 1 (eI .u8) x2.a) KK ⟨_, _, _, hS, h.to, H, rp2_2, rp0, rp1, rp2⟩ ?_
 rintro mu_ a w ⟨Z, s105, sv107, hS, h, H, rp2_2, rp0, rp1, rp2⟩
 obtain ⟨mu_, rfl, n105, en105, hS⟩ := lpX eB105 hS
 refine rg fun K k => sB h hS rfl (v_lt rfl rfl) fun z108 e108 hS a h => ?_
 refine cz k <| sq <| cI h hS rfl (fun ec110 hS => ?_) fun ec110 hS => ?_
 refine c_skip <| sb ?_
 refine rg fun K k => ?_
 obtain ⟨c112, hS⟩ := ck hS
 obtain ⟨z113, e113, hS⟩ := bv hS
 refine st_idx h U22 Z5 rfl rfl (rp2_2.at H.zin) (fun _ => rfl) z113 c112.1 (by rw [e113]; exact gel_some c112) rfl fun a v46 A46 h => ?_
 refine s1 h rfl (v_loadAt1 rfl A46 isAgg5 rfl) fun a h => ?_
 refine cps 1 h rfl fun a h => cz k <| c_lregion <| cps 1 h rfl fun a h => s1 h rfl (v_build bld26 [] O3 rfl rfl) fun a h => ?_
 refine cps 1 h rfl fun a h => sI h hS rfl (v_convInt (by rw [U5]; rfl) U2 rfl rfl) fun z114 e114 hS a h => ?_
 refine sI h hS rfl (v_mulw rfl rfl) fun z115 e115 hS a h => ?_
 refine sC h H hS rfl (fun y116 f116 => dC call14 (value_Num_ok f116 :)) fun y116 hS w X H a h => ?_
 have A46 := At.ext A46 X
 refine cps 1 h rfl fun a h => sI h hS rfl (v_bits_and rfl rfl) fun z117 e117 hS a h => ?_
 refine sB h hS rfl (v_gt rfl rfl) fun z118 e118 hS a h => ?_
 refine sC h H hS rfl (fun y119 f119 => dC call24 (value_Bool_ok f119 :)) fun y119 hS w X H a h => ?_
 have A46 := At.ext A46 X
 refine sC h H hS rfl (fun y120 f120 => dC call28 (value_Text_ok f120 :)) fun y120 hS w X H a h => ?_
 have A46 := At.ext A46 X
 refine cps 1 h rfl fun a h => sI h hS rfl (v_convInt (by rw [U5]; rfl) U3 rfl rfl) fun z121 e121 hS a h => ?_
 refine sI h hS rfl (v_quow rfl rfl (by decide)) fun z122 e122 hS a h => ?_
 refine sI h hS rfl (v_rem rfl rfl (by decide)) fun z123 e123 hS a h => ?_
 refine sI h hS rfl (v_addw rfl rfl) fun z124 e124 hS a h => ?_
 refine sC h H hS rfl (fun y125 f125 => dC call21 (value_Fail_ok f125 :)) fun y125 hS w X H a h => ?_
 have A46 := At.ext A46 X
 refine z_slice (enc := vL) ([(⟨0, 0, []⟩ : V), y116, y119, y120, y125] : List (V)) h H U63 Z26 V26 rfl (zl := [.int .i64 0, .int .i64 0, S [], .int .i64 0, .int .i64 0, S [], .int .i64 0, .int .i64 0, S [], .int .i64 0, .int .i64 0, S [], .int .i64 0, .int .i64 0, S []]) kR (plA_get 5 3) O5 O15 rfl rfl rfl rfl rfl fun a v65_126 Z w hsub X H r65_126 h => ?_
 have rp0 := rp0.sub hsub
 have rp1 := rp1.sub hsub
 have rp2 := rp2.sub hsub
 have rp2_2 := rp2_2.sub hsub
 have A46 := At.ext A46 X
 refine cps 1 h rfl fun a h => sI h hS rfl (v_bits_and rfl rfl) fun z127 e127 hS a h => ?_
 refine cps 1 h rfl fun a h => ?_
 obtain ⟨c128, hS⟩ := ck hS
 refine sI h hS rfl (v_shr rfl rfl c128) fun z129 e129 hS a h => ?_
 refine sI h hS rfl (v_addw rfl rfl) fun z130 e130 hS a h => ?_
 obtain ⟨c131, hS⟩ := ck hS
 obtain ⟨z132, e132, hS⟩ := bv hS
 refine st_idx h U63 Z26 rfl rfl (r65_126.at H.zin) (fun _ => rfl) z132 c131.1 (by rw [e132]; exact gel_some c131) rfl fun a v71 A71 h => ?_
 refine s1 h rfl (v_loadAtA O3 rfl A71 A26 Z26 rfl rfl) fun a h => ?_
 refine z_slice (enc := vL) ([z132] : List (V)) h H U63 Z26 V26 rfl (zl := [.int .i64 0, .int .i64 0, S []]) kR (plA_get 1 3) [_] O3 rfl rfl rfl rfl rfl fun a v73_133 Z w hsub X H r73_133 h => ?_
 have r65_126 := r65_126.sub hsub
 have rp0 := rp0.sub hsub
 have rp1 := rp1.sub hsub
 have rp2 := rp2.sub hsub
 have rp2_2 := rp2_2.sub hsub
 have A46 := At.ext A46 X
 have A71 := At.ext A71 X
 obtain ⟨c135, hS⟩ := ck hS
 obtain ⟨z136, e136, hS⟩ := bv hS
 refine z_appendS (enc := vL) (out := s105.2) (data := [z132]) h H 4 rfl U63 app26 rfl rfl rfl r73_133 (fun _ => rfl) (fun _ _ => rfl) c135 rfl fun a v74_134 w H h => ?_
 rw [← e136] at H
 have H : HZ w0 _ _ O5 _ := H
 refine cps 1 h rfl fun a h => c_lnil <| cO h [3, 4, 7, 8, 42, 43, 44] O7 fun h => ?_
 refine c_lregion <| sI h hS rfl (v_addw rfl rfl) fun z137 e137 hS a h => ?_
 refine cps 1 h rfl fun a h => c_lnil ?_
 exact exL (ex3 ⟨lpN en105 hS, h.to, H, rp2_2, rp0, rp1, rp2⟩)
 exact c_exit (ex3 ⟨hS, h.to, H, rp0, rp1, rp2, rp2_2⟩)
end Go.Proofs.YtcecjdnkcbfhlaaGreatDoor
