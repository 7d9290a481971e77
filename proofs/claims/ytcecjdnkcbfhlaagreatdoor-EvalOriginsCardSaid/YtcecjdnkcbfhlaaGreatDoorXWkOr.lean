/- Joined texts. -/
import Derived.Test.YtcecjdnkcbfhlaaGreatDoorXU0
import Derived.Test.YtcecjdnkcbfhlaaGreatDoorXWkBo
import Derived.Test.YtcecjdnkcbfhlaaGreatDoorXWkFm
set_option linter.unusedSimpArgs false
set_option linter.unusedVariables false
set_option linter.unusedSectionVars false
namespace Go.Proofs.YtcecjdnkcbfhlaaGreatDoor
open Go.Stp Go.RowKit Go.ValP Go.Sp _root_.Go.Proofs.Tryz
set_option maxRecDepth 100000
set_option maxHeartbeats 2000000
theorem reckonerlaw13_asked_ok {x0 : Rs} {x1 : C} {res : Bool} {w0 : World} (hS : reckonerlaw13_asked x0 x1 = some res) {xv0 : Value} (rp0 : RdZ (hz w0) xv0 3 cL x0.l) : Calls Tryz.prog 27 [.agg #[.int .i64 x0.v.k, .int .i64 x0.v.n, S x0.v.s, .int .i64 x0.c.s, .int .i64 x0.c.c, .int .i64 x0.c.r, xv0], .agg #[.int .i64 x1.s, .int .i64 x1.c, .int .i64 x1.r]].toArray w0 (Ret fun v w => v = .bool res ∧ Ext w0 w) := by
 refine en func27 [0, 1] [_, _] fun Q a Zi Z hzs H h hr => ?_
 have rp0 := rp0.sub hzs
 clear hzs
 unfold reckonerlaw13_asked at hS
 refine rg fun K k => ?_
 refine z_box h H rfl [_, _, _, _, _, _, _] rfl rfl fun a p1 w X H h => ?_
 have H : HZ w0 _ _ [_] _ := H
 refine z_box h H rfl [_, _, _] rfl rfl fun a p2 w X H h => ?_
 have H : HZ w0 _ _ [_, _] _ := H
 refine cps 1 h rfl fun a h => ?_
 refine cz k ?_
 obtain ⟨J4, eJ4, hS⟩ := bv hS
 refine sqJ (fun a w => ∃ (Z : FZ) (s4 : Unit), J4 s4 = some res ∧ Fr 18 [] a ∧ HZ w0 Zi Z [.blk p1 (Cel [.int .i64 x0.v.k, .int .i64 x0.v.n, S x0.v.s, .int .i64 x0.c.s, .int .i64 x0.c.c, .int .i64 x0.c.r, xv0] 51), .blk p2 (Cel [.int .i64 x1.s, .int .i64 x1.c, .int .i64 x1.r] 28)] w ∧ RdZ Z xv0 3 cL x0.l) ?_ ?_
 rintro a w ⟨Z, s4, hS, h, H, rp0⟩
 subst eJ4
 refine rg fun K k => ?_
 refine cps 1 h rfl fun a h => ?_
 refine cz k ?_
 cases hS
 refine r1 hr h rfl rfl ⟨rfl, H.out⟩
 refine rg fun K k => ?_
 refine s1 h rfl (v_fieldAddr rfl underlying51 rfl sizeOf49 rfl rfl) fun a h => ?_
 refine s1 h rfl (l1 H 0 isAgg49) fun a h => ?_
 refine s1 h rfl (v_len underlying49 rfl (rp0.at H.zin)) fun a h => ?_
 refine cps 1 h rfl fun a h => ?_
 refine cN k h [3, 8, 9, 10] [_, _, _, _] fun h => ?_
 refine lb ?_
 obtain ⟨B6, eB6, hS⟩ := bv hS
 refine lpJ (fun mu_ a w => ∃ (Z : FZ) (s6 : Int), loopF B6 mu_ s6 = some res ∧ Fr 18 [(3, .pointer (some ⟨p2, 0, none⟩)), (8, xv0), (9, .int .i64 (x0.l.length : Int)), (10, .int .i64 s6)] a ∧ HZ w0 Zi Z [.blk p1 (Cel [.int .i64 x0.v.k, .int .i64 x0.v.n, S x0.v.s, .int .i64 x0.c.s, .int .i64 x0.c.c, .int .i64 x0.c.r, xv0] 51), .blk p2 (Cel [.int .i64 x1.s, .int .i64 x1.c, .int .i64 x1.r] 28)] w ∧ RdZ Z xv0 3 cL x0.l) KK ⟨_, _, hS, h.to, H, rp0⟩ ?_
 rintro mu_ a w ⟨Z, s6, hS, h, H, rp0⟩
 obtain ⟨mu_, rfl, n6, en6, hS⟩ := lpX eB6 hS
 refine rg fun K k => ?_
 refine sB h hS rfl (v_lt rfl rfl) fun z8 e8 hS a h => ?_
 refine cz k ?_
 refine sq ?_
 refine cI h hS rfl (fun ec10 hS => ?_) fun ec10 hS => ?_
 refine c_skip ?_
 refine sb ?_
 refine rg fun K k => ?_
 obtain ⟨c12, hS⟩ := ck hS
 obtain ⟨z13, e13, hS⟩ := bv hS
 refine st_idx h underlying49 sizeOf28 rfl rfl (rp0.at H.zin) (fun _ => rfl) z13 c12.1 (by rw [e13]; exact gel_some c12) rfl fun a v12 A12 h => ?_
 refine s1 h rfl (v_loadAtA [_, _, _] rfl A12 isAgg28 sizeOf28 rfl rfl) fun a h => ?_
 refine zA h H zeroValue28 [_, _, _] (fun x => [_, _, x]) fun a p14 w X H h => ?_
 have A12 := At.ext A12 X
 refine zS h H 2 sizeOf28 [_, _, _] [_, _, _] [_, _, _] fun w H => ?_
 refine cz k ?_
 refine rg fun K k => ?_
 refine s1 h rfl (lA H 2 isAgg28 sizeOf28 [_, _, _]) fun a h => ?_
 refine s1 h rfl (lA H 1 isAgg28 sizeOf28 [_, _, _]) fun a h => ?_
 refine sB h hS rfl (v_aggeq rfl rfl age28 (agq28 _ _ _ _ _ _)) fun z15 e15 hS a h => ?_
 refine cN k h [3, 8, 9, 10, 16] [_, _, _, _, _] fun h => ?_
 refine cI h hS rfl (fun ec16 hS => ?_) fun ec16 hS => ?_
 refine rg fun K k => ?_
 refine cps 1 h rfl fun a h => ?_
 refine cN k h [4] [_] fun h => ?_
 cases hS
 refine r1 hr h rfl rfl ⟨rfl, H.out⟩
 refine c_skip ?_
 refine c_lregion ?_
 refine sI h hS rfl (v_addw rfl rfl) fun z17 e17 hS a h => ?_
 refine cps 1 h rfl fun a h => ?_
 refine c_lnil ?_
 exact exL (ex2 ⟨lpN en6 hS, h.to, (H.keepN 2 rfl), rp0⟩)
 exact c_exit (exU1 ⟨hS, h.to, H, rp0⟩)
theorem reckonerlaw13_EvalOrigins_ok {x0 : List (Int)} {x1 : List (V)} {res : Bool} {w0 : World} (hS : reckonerlaw13_EvalOrigins x0 x1 = some res) {xv0 : Value} (rp0 : RdZ (hz w0) xv0 1 (eI .u8) x0) {xv1 : Value} (rp1 : RdZ (hz w0) xv1 3 vL x1) (hG : GW w0) : Calls Tryz.prog 5 [xv0, xv1].toArray w0 (Ret fun v w => v = .bool res ∧ Ext w0 w) := by
 refine en func5 [0, 1] [_, _] fun Q a Zi Z hzs H h hr => ?_
 have rp0 := rp0.sub hzs
 have rp1 := rp1.sub hzs
 clear hzs
 unfold reckonerlaw13_EvalOrigins at hS
 refine rg fun K k => ?_
 refine z_box h H rfl [xv0] (by rw [rp0.cells]) rfl fun a p1 w X H h => ?_
 have H : HZ w0 _ _ [_] _ := H
 refine cps 1 h rfl fun a h => ?_
 refine cz k ?_
 refine sq ?_
 refine rg fun K k => ?_
 refine sC h H hS rfl (fun y3 f3 => dC call22 (reckonerlaw13_fit_ok f3 (hG.ext H.out) :)) fun y3 hS w X H a h => ?_
 refine sB h hS rfl (v_not rfl) fun z4 e4 hS a h => ?_
 refine cz k ?_
 refine cI h hS rfl (fun ec5 hS => ?_) fun ec5 hS => ?_
 refine rg fun K k => ?_
 refine cps 1 h rfl fun a h => ?_
 refine cN k h [4] [_] fun h => ?_
 cases hS
 refine r1 hr h rfl rfl ⟨rfl, H.out⟩
 refine c_skip ?_
 refine cO h [1, 2] [_, _] fun h => ?_
 refine sq ?_
 refine rg fun K k => ?_
 refine s1 h rfl (l1 H 0 isAgg23) fun a h => ?_
 refine s1 h rfl (v_len underlying23 rfl (rp0.at H.zin)) fun a h => ?_
 refine sB h hS rfl (v_gt rfl rfl) fun z7 e7 hS a h => ?_
 refine cps 1 h rfl fun a h => ?_
 refine st_g h rfl rfl (gF rfl) rfl rfl (fun e0 => v_move rfl) fun a h => ?_
 refine st_g h rfl rfl (gF rfl) rfl rfl (fun e0 => v_len underlying63 (eg e0 rfl) (rp1.at H.zin)) fun a h => ?_
 obtain ⟨z8, e8, hS⟩ := bv hS
 refine st_g h rfl rfl (gF rfl) rfl rfl (fun e0 => vB e8 (v_gt (eg e0 rfl) rfl)) fun a h => ?_
 refine sB h hS rfl (v_or rfl rfl) fun z9 e9 hS a h => ?_
 refine cN k h [1, 2, 18] [_, _, _] fun h => ?_
 refine cI h hS rfl (fun ec10 hS => ?_) fun ec10 hS => ?_
 refine rg fun K k => ?_
 refine cps 1 h rfl fun a h => ?_
 refine cz k ?_
 cases hS
 refine r1 hr h rfl rfl ⟨rfl, H.out⟩
 refine c_skip ?_
 refine rg fun K k => ?_
 obtain ⟨y11, f11, hS⟩ := bo hS
 refine st2 h rfl rfl rfl (dC call13 (reckonerlaw05_Seed_Formula_ok KK f11 H.zin rp0 (H.hp.get 0 rfl) (H.offI 0 rfl _ rfl) rfl rfl (hG.ext H.out))) ?_
 rintro v_ w ⟨v19_12_1, rfl, r19_12_1, ⟨sv_12, hm_12, rs_12⟩, X⟩ a h
 obtain ⟨Z, hsub, hadd, H⟩ := H.lentB 0 rfl hm_12 X (hl' := [_]) rfl
 have rp1 := rp1.sub hsub
 have r19_12_1 := r19_12_1.sub hadd
 have rs_12 := rs_12.sub hadd
 have H : HZ w0 _ _ [_] _ := H
 refine zA h H zeroValue33 [_, _, _, _, _, _, _, _, _, _, _, _, _, _, _, _, _] (fun x => [_, x]) fun a p13 w X H h => ?_
 refine z_store h H 1 rfl rfl rfl sizeOf33 [_, _, _, _, _, _, _, _, _, _, _, _, _, _, _, _, _] rfl rfl (by obtain ⟨_, _, _, e_⟩ := (r19_12_1).form; subst e_; rfl) (by simp) [_, _, _, _, _, _, _, _, _, _, _, _, _, _, _, _, _] rfl (hl' := [_, _]) rfl fun w H => ?_
 refine cz k ?_
 refine rg fun K k => ?_
 refine cps 1 h rfl fun a h => ?_
 obtain ⟨y14, f14, hS⟩ := bo hS
 refine st2 h rfl rfl rfl (dC call23 (reckonerlaw13_Place_ok f14 H.zin rp1)) ?_
 rintro v_ w ⟨p15, rfl, ⟨lo_2, hb_2, lp2⟩, X⟩ a h
 have H := H.pushF X hb_2 lo_2
 have H : HZ w0 _ _ [_, _, _] _ := H
 refine cps 1 h rfl fun a h => ?_
 refine cN k h [5, 6] [_, _] fun h => ?_
 refine rg fun K k => ?_
 refine s1 h rfl (v_build bld28 [_, _, _] [_, _, _] rfl rfl) fun a h => ?_
 refine zA h H zeroValue28 [_, _, _] (fun x => [_, _, _, x]) fun a p16 w X H h => ?_
 refine zS h H 3 sizeOf28 [_, _, _] [_, _, _] [_, _, _, _] fun w H => ?_
 refine cz k ?_
 refine rg fun K k => ?_
 refine s1 h rfl (lA H 1 isAgg33 sizeOf33 [_, _, _, _, _, _, _, _, _, _, _, _, _, _, _, _, _]) fun a h => ?_
 refine s1 h rfl (lA H 3 isAgg28 sizeOf28 [_, _, _]) fun a h => ?_
 refine cps 1 h rfl fun a h => ?_
 obtain ⟨Z, hsub, H, hz2_17⟩ := H.freezeB 2 rfl rfl
 have r19_12_1 := r19_12_1.sub hsub
 have rp1 := rp1.sub hsub
 have rs_12 := rs_12.sub hsub
 have H : HZ w0 _ _ [_, _, _, _] _ := H
 refine s1 h rfl (v_mkIface mkI rfl) fun a h => ?_
 obtain ⟨y18, f18, hS⟩ := bo hS
 refine st2 h rfl rfl rfl (dC call19 (eval_Eval_ok f18 H.zin r19_12_1 hz2_17 lp2 (hG.ext H.out))) ?_
 rintro v_ w ⟨v27_19_1, rfl, r27_19_1, X⟩ a h
 obtain ⟨Z, hsub, hadd, H⟩ := H.adopt' X
 have r19_12_1 := r19_12_1.sub hsub
 have rp1 := rp1.sub hsub
 have rs_12 := rs_12.sub hsub
 have hz2_17 := hsub _ _ hz2_17
 have r27_19_1 := r27_19_1.sub (ZB.empty.trans hadd)
 refine zA h H zeroValue51 [_, _, _, _, _, _, _] (fun x => [_, _, _, _, x]) fun a p20 w X H h => ?_
 refine z_store h H 4 rfl rfl rfl sizeOf51 [_, _, _, _, _, _, _] rfl rfl (by obtain ⟨_, _, _, e_⟩ := (r27_19_1).form; subst e_; rfl) (by simp) [_, _, _, _, _, _, _] rfl (hl' := [_, _, _, _, _]) rfl fun w H => ?_
 refine cN k h [6, 7, 8] [_, _, _] fun h => ?_
 refine sq ?_
 refine rg fun K k => ?_
 refine s1 h rfl (v_fieldAddr rfl underlying51 rfl sizeOf26 rfl rfl) fun a h => ?_
 refine s1 h rfl (v_fieldAddr rfl underlying26 rfl sizeOf3 rfl rfl) fun a h => ?_
 refine s1 h rfl (l1 H 4 isAgg3) fun a h => ?_
 refine sB h hS rfl (v_ne rfl rfl) fun z22 e22 hS a h => ?_
 refine cz k ?_
 refine cI h hS rfl (fun ec23 hS => ?_) fun ec23 hS => ?_
 refine rg fun K k => ?_
 refine cps 1 h rfl fun a h => ?_
 refine cN k h [4] [_] fun h => ?_
 cases hS
 refine r1 hr h rfl rfl ⟨rfl, H.out⟩
 refine c_skip ?_
 refine cO h [6, 7, 8] [_, _, _] fun h => ?_
 refine fl h ?_
 refine F1 rfl (fun w X => v_fieldAddr rfl underlying51 rfl sizeOf28 rfl rfl) ?_
 refine F1 rfl (fun w X => have H := H.ext X; lA H 4 isAgg28 sizeOf28 [_, _, _]) ?_
 refine F1 rfl (fun w X => have H := H.ext X; lA H 3 isAgg28 sizeOf28 [_, _, _]) ?_
 refine fB hS rfl (fun w X => v_aggeq rfl rfl age28 (agq28 _ _ _ _ _ _)) fun z24 e24 hS => ?_
 refine fcps 1 rfl ?_
 refine f_g [8, 36] rfl rfl rfl (gF rfl) rfl rfl (fun e0 w X => have H := H.ext X; lA H 4 isAgg51 sizeOf51 [_, _, _, _, _, _, _]) ?_
 refine f_g [8, 36] rfl rfl rfl (gF rfl) rfl rfl (fun e0 w X => v_fieldAddr rfl underlying51 rfl sizeOf28 rfl rfl) ?_
 refine f_g [38, 36] rfl rfl rfl (gF rfl) rfl rfl (fun e0 w X => have H := H.ext X; v_loadA [_, _, _] (eg e0 rfl) isAgg28 sizeOf28 (H.hp.get 4 rfl) rfl rfl) ?_
 obtain ⟨y25, f25, hS⟩ := bo hS
 refine f_gd (V := .bool y25) [37, 39, 36] rfl rfl rfl (gF rfl) rfl rfl (fun e0 w X => have H := H.ext X; d_call [_, _] (evs_c (eg e0 rfl) (evs_c (eg e0 rfl) evs_n)) call27 (reckonerlaw13_asked_ok (x0 := y18) (x1 := y18.c) (ifT e0 f25) (r27_19_1.hz H.zin))) ?_
 refine f_g [40, 36] rfl rfl rfl (gF rfl) rfl rfl (fun e0 w X => v_move (eg e0 rfl)) ?_
 refine f_g [6, 41] rfl rfl rfl (ggT rfl) rfl rfl (fun e0 w X => v_move rfl) ?_
 refine f_g [8, 41] rfl rfl rfl (ggT rfl) rfl rfl (fun e0 w X => v_fieldAddr rfl underlying51 rfl sizeOf28 rfl rfl) ?_
 refine f_g [43, 41] rfl rfl rfl (ggT rfl) rfl rfl (fun e0 w X => have H := H.ext X; v_loadA [_, _, _] (eg e0 rfl) isAgg28 sizeOf28 (H.hp.get 4 rfl) rfl rfl) ?_
 obtain ⟨y26, f26, hS⟩ := bo hS
 refine f_gd (V := .agg #[.int .i64 y26.k, .int .i64 y26.n, S y26.s]) [42, 44, 41] rfl rfl rfl (ggT rfl) rfl rfl (fun e0 w X => have Hs := ZB.of H.zin X; have H := H.ext X; d_call [_, _] (evs_c (eg e0 rfl) (evs_c (eg e0 rfl) evs_n)) call18 (reckonerref13_Place_At_ok (ifT e0 f26) (ZB.inn H.zin) (Hs _ _ hz2_17) lp2)) ?_
 refine f_g [8, 41] rfl rfl rfl (ggT rfl) rfl rfl (fun e0 w X => v_fieldAddr rfl underlying51 rfl sizeOf26 rfl rfl) ?_
 refine f_g [46, 41] rfl rfl rfl (ggT rfl) rfl rfl (fun e0 w X => have H := H.ext X; v_loadA [_, _, _] (eg e0 rfl) isAgg26 sizeOf26 (H.hp.get 4 rfl) rfl rfl) ?_
 obtain ⟨z27, e27, hS⟩ := bv hS
 refine f_g [45, 47, 41] rfl rfl rfl (ggT rfl) rfl rfl (fun e0 w X => vB e27 (v_aggeq (eg e0 rfl) (eg e0 rfl) age26 (agq26 _ _ _ _ _ _))) ?_
 obtain ⟨z28, e28, hS⟩ := bv hS
 refine f_g [41, 48, 36] rfl rfl rfl (gF rfl) rfl rfl (fun e0 w X => vB e28 (v_and (eg e0 rfl) (egn e0 rfl))) ?_
 refine fB hS rfl (fun w X => v_or rfl rfl) fun z29 e29 hS => ?_
 refine fcps 1 rfl ?_
 refine fE [4] [_] H fun a w X H h => ?_
 cases hS
 refine r1 hr h rfl rfl ⟨rfl, H.out⟩
end Go.Proofs.YtcecjdnkcbfhlaaGreatDoor
