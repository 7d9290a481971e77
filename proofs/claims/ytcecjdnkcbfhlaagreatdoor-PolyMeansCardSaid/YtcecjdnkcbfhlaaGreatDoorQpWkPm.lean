/- Joined texts. -/
import Derived.Test.YtcecjdnkcbfhlaaGreatDoorQM0
import Derived.Test.YtcecjdnkcbfhlaaGreatDoorQU0
import Derived.Test.YtcecjdnkcbfhlaaGreatDoorQpWkFm
import Derived.Test.YtcecjdnkcbfhlaaGreatDoorQpWkRi
set_option linter.unusedSimpArgs false
set_option linter.unusedVariables false
set_option linter.unusedSectionVars false
namespace Go.Proofs.YtcecjdnkcbfhlaaGreatDoor
open Go.Stp Go.RowKit Go.ValP Go.Sp _root_.Go.Proofs.Tryz
set_option maxRecDepth 100000
set_option maxHeartbeats 2000000
theorem reckonerlaw15_PolyMeans_1_ok {x0 : C} {x1 : List V} {res : Int} {w0 : World} (hS : reckonerlaw15_PolyMeans_1 x0 x1 = some res) {Z : FZ} (hZ : Z.inn w0) {pc1 pb1 : Nat} (hc1 : Z pc1 = some (Cel [.pointer (some ⟨pb1, 0, none⟩)] 35)) (hp1 : Z pb1 = some (Cel ((x1 : List V).flatMap vL) 39)) (lp1 : x1.length = 128) : Calls Tryz.prog 17 [.agg #[.int .i64 x0.s, .int .i64 x0.c, .int .i64 x0.r], .pointer (some ⟨pc1, 0, none⟩)].toArray w0 (Ret fun v w => v = .int .i64 res ∧ Ext w0 w) := by
 refine enS hZ func17 [0, 1] [_, _] fun Q a Zi eZi H h hr => ?_
 try rw [← eZi] at hr
 clear eZi
 unfold reckonerlaw15_PolyMeans_1 at hS
 refine rg fun K k => ?_
 refine z_box h H rfl [_, _, _] rfl rfl fun a p1 w X H h => ?_
 have H : HZ w0 _ _ [_] _ := H
 refine cps 1 h rfl fun a h => ?_
 refine cz k ?_
 refine rg fun K k => ?_
 refine s1 h rfl (v_load1 rfl isAgg35 (H.zin _ _ hc1) rfl) fun a h => ?_
 refine s1 h rfl (lA H 0 isAgg28 sizeOf28 [_, _, _]) fun a h => ?_
 obtain ⟨y2, f2, hS⟩ := bo hS
 refine st2v (T := Ext) (V := .agg #[.int .i64 y2.k, .int .i64 y2.n, S y2.s]) h rfl rfl rfl (dC call18 (reckonerref13_Place_At_ok f2 H.zin hp1 lp1)) fun w X a h => ?_
 have H := H.ext X
 refine s1 h rfl (v_field1 rfl underlying26 rfl isAgg2 rfl) fun a h => ?_
 refine sI h hS rfl (v_quow rfl rfl (by decide)) fun z3 e3 hS a h => ?_
 refine cps 1 h rfl fun a h => ?_
 refine cN k h [3] [_] fun h => ?_
 cases hS
 refine r1 hr h rfl rfl ⟨rfl, H.out⟩
theorem reckonerlaw15_PolyMeans_ok {x0 : List (Int)} {x1 : List (Int)} {res : Bool} {w0 : World} (hS : reckonerlaw15_PolyMeans x0 x1 = some res) {xv0 : Value} (rp0 : RdZ (hz w0) xv0 1 (eI .u8) x0) {xv1 : Value} (rp1 : RdZ (hz w0) xv1 1 (eI .u8) x1) (hG : GW w0) : Calls Tryz.prog 3 [xv0, xv1].toArray w0 (Ret fun v w => v = .bool res ∧ Ext w0 w) := by
 refine en func3 [0, 1] [_, _] fun Q a Zi Z hzs H h hr => ?_
 have rp0 := rp0.sub hzs
 have rp1 := rp1.sub hzs
 clear hzs
 unfold reckonerlaw15_PolyMeans at hS
 refine rg fun K k => ?_
 refine z_box h H rfl [xv0] (by rw [rp0.cells]) rfl fun a p1 w X H h => ?_
 have H : HZ w0 _ _ [_] _ := H
 refine cps 1 h rfl fun a h => ?_
 refine cz k ?_
 refine sq ?_
 refine rg fun K k => ?_
 refine sC h H hS rfl (fun y3 f3 => dC call12 (reckonerlaw15_fit_ok f3 (hG.ext H.out) :)) fun y3 hS w X H a h => ?_
 refine sB h hS rfl (v_not rfl) fun z4 e4 hS a h => ?_
 refine cz k ?_
 refine cI h hS rfl (fun ec5 hS => ?_) fun ec5 hS => ?_
 refine rg fun K k => ?_
 refine cps 1 h rfl fun a h => ?_
 refine cN k h [4] [_] fun h => ?_
 cases hS
 refine r1 hr h rfl rfl ⟨rfl, H.out⟩
 refine c_skip ?_
 refine cO h [1, 2] [_, _] fun h => ?_
 refine sq ?_
 refine rg fun K k => ?_
 refine s1 h rfl (l1 H 0 isAgg23) fun a h => ?_
 refine s1 h rfl (v_len underlying23 rfl (rp0.at H.zin)) fun a h => ?_
 refine sB h hS rfl (v_gt rfl rfl) fun z7 e7 hS a h => ?_
 refine cps 1 h rfl fun a h => ?_
 refine st_g h rfl rfl (gF rfl) rfl rfl (fun e0 => v_move rfl) fun a h => ?_
 refine st_g h rfl rfl (gF rfl) rfl rfl (fun e0 => v_len underlying22 (eg e0 rfl) (rp1.at H.zin)) fun a h => ?_
 obtain ⟨z8, e8, hS⟩ := bv hS
 refine st_g h rfl rfl (gF rfl) rfl rfl (fun e0 => vB e8 (v_gt (eg e0 rfl) rfl)) fun a h => ?_
 refine sB h hS rfl (v_or rfl rfl) fun z9 e9 hS a h => ?_
 refine cN k h [1, 2, 23] [_, _, _] fun h => ?_
 refine cI h hS rfl (fun ec10 hS => ?_) fun ec10 hS => ?_
 refine rg fun K k => ?_
 refine cps 1 h rfl fun a h => ?_
 refine cz k ?_
 cases hS
 refine r1 hr h rfl rfl ⟨rfl, H.out⟩
 refine c_skip ?_
 refine rg fun K k => ?_
 obtain ⟨y11, f11, hS⟩ := bo hS
 refine st2 h rfl rfl rfl (dC call13 (reckonerlaw05_Seed_Formula_ok KK f11 H.zin rp0 (H.hp.get 0 rfl) (H.offI 0 rfl _ rfl) rfl rfl (hG.ext H.out))) ?_
 rintro v_ w ⟨v24_12_1, rfl, r24_12_1, ⟨sv_12, hm_12, rs_12⟩, X⟩ a h
 obtain ⟨Z, hsub, hadd, H⟩ := H.lentB 0 rfl hm_12 X (hl' := [_]) rfl
 have rp1 := rp1.sub hsub
 have r24_12_1 := r24_12_1.sub hadd
 have rs_12 := rs_12.sub hadd
 have H : HZ w0 _ _ [_] _ := H
 refine zA h H zeroValue33 [_, _, _, _, _, _, _, _, _, _, _, _, _, _, _, _, _] (fun x => [_, x]) fun a p13 w X H h => ?_
 refine z_store h H 1 rfl rfl rfl sizeOf33 [_, _, _, _, _, _, _, _, _, _, _, _, _, _, _, _, _] rfl rfl (by obtain ⟨_, _, _, e_⟩ := (r24_12_1).form; subst e_; rfl) (by simp) [_, _, _, _, _, _, _, _, _, _, _, _, _, _, _, _, _] rfl (hl' := [_, _]) rfl fun w H => ?_
 refine cz k ?_
 refine rg fun K k => ?_
 refine s1 (V := .agg (zeroPl.flatMap vL).toArray) h rfl (v_buildZ bldZ) fun a h => ?_
 refine z_box h H rfl (zeroPl.flatMap vL) rfl rfl fun a p14 w X H h => ?_
 have H : HZ w0 _ _ [_, _, _] _ := H
 have lp2 := zeroPl_len
 refine zA h H zeroValue35 [_] (fun x => [_, _, _, x]) fun a p15 w X H h => ?_
 refine zS h H 3 sizeOf35 [_] [_] [_, _, _, _] fun w H => ?_
 refine cN k h [1, 5, 6] [_, _, _] fun h => ?_
 obtain ⟨J17, eJ17, hS⟩ := bv hS
 refine sqJ (fun a w => ∃ (Z : FZ) (s17 : (List V)), J17 s17 = some res ∧ Fr 102 [(5, .pointer (some ⟨p13, 0, none⟩)), (6, .pointer (some ⟨p15, 0, none⟩))] a ∧ HZ w0 Zi Z [.blk p1 (Cel [sv_12] 23), .blk p13 (Cel [.int .i64 y11.1.k, .int .i64 y11.1.op, .int .i64 y11.1.v.k, .int .i64 y11.1.v.n, S y11.1.v.s, .int .i64 y11.1.a.c.s, .int .i64 y11.1.a.c.c, .int .i64 y11.1.a.c.r, .bool y11.1.a.ac, .bool y11.1.a.ar, .int .i64 y11.1.b.c.s, .int .i64 y11.1.b.c.c, .int .i64 y11.1.b.c.r, .bool y11.1.b.ac, .bool y11.1.b.ar, S y11.1.nm, v24_12_1] 33), .blk p14 (Cel ((s17 : List V).flatMap vL) 39), .blk p15 (Cel [.pointer (some ⟨p14, 0, none⟩)] 35)] w ∧ RdZ Z sv_12 1 (eI .u8) y11.2 ∧ RdN Z v24_12_1 nodeEnc y11.1.l ∧ s17.length = 128) ?_ ?_
 rintro a w ⟨Z, s17, hS, h, H, rs_12, r24_12_1, lp2⟩
 subst eJ17
 refine rg fun K k => ?_
 refine s1 h rfl (lA H 1 isAgg33 sizeOf33 [_, _, _, _, _, _, _, _, _, _, _, _, _, _, _, _, _]) fun a h => ?_
 refine s1 h rfl (l1 H 3 isAgg35) fun a h => ?_
 obtain ⟨Z, hsub, H, hz2_18⟩ := H.freezeB 2 rfl rfl
 have r24_12_1 := r24_12_1.sub hsub
 have rs_12 := rs_12.sub hsub
 have H : HZ w0 _ _ [_, _, _, _] _ := H
 refine s1 h rfl (v_mkIface mkI rfl) fun a h => ?_
 obtain ⟨y19, f19, hS⟩ := bo hS
 refine st2 h rfl rfl rfl (dC call15 (poly_Of_ok KK f19 H.zin r24_12_1 hz2_18 lp2 (hG.ext H.out))) ?_
 rintro v_ w ⟨v59_20_1, rfl, r59_20_1, X⟩ a h
 obtain ⟨Z, hsub, hadd, H⟩ := H.adopt' X
 have r24_12_1 := r24_12_1.sub hsub
 have rs_12 := rs_12.sub hsub
 have hz2_18 := hsub _ _ hz2_18
 have r59_20_1 := r59_20_1.sub hadd
 refine cps 5 h rfl fun a h => ?_
 refine cN k h [5, 6, 9, 10] [_, _, _, _] fun h => ?_
 refine sq ?_
 refine rg fun K k => ?_
 refine cps 1 h rfl fun a h => ?_
 refine sB h hS rfl (v_not rfl) fun z22 e22 hS a h => ?_
 refine cz k ?_
 refine cI h hS rfl (fun ec23 hS => ?_) fun ec23 hS => ?_
 refine rg fun K k => ?_
 refine cps 1 h rfl fun a h => ?_
 refine cN k h [4] [_] fun h => ?_
 cases hS
 refine r1 hr h rfl rfl ⟨rfl, H.out⟩
 refine c_skip ?_
 refine rg fun K k => ?_
 refine cps 1 h rfl fun a h => ?_
 obtain ⟨Z, hsub, H, hz3_24⟩ := H.freezeB 3 rfl rfl
 have r24_12_1 := r24_12_1.sub hsub
 have r59_20_1 := r59_20_1.sub hsub
 have rs_12 := rs_12.sub hsub
 have hz2_18 := hsub _ _ hz2_18
 have H : HZ w0 _ _ [_, _, _, _] _ := H
 refine s1 h rfl (v_makeFunc [_] rfl) fun a h => ?_
 refine sC h H hS rfl (fun y26 f26 => dC call16 (poly_Num_ok f26 H.zin r59_20_1 ⟨call17, fun c25 r_ w_ hi_ hg_ => reckonerlaw15_PolyMeans_1_ok hg_ hi_ hz3_24 hz2_18 lp2⟩ :)) fun y26 hS w X H a h => ?_
 refine cps 5 h rfl fun a h => ?_
 refine cN k h [5, 6, 11, 12] [_, _, _, _] fun h => ?_
 refine rg fun K k => ?_
 refine s1 h rfl (lA H 1 isAgg33 sizeOf33 [_, _, _, _, _, _, _, _, _, _, _, _, _, _, _, _, _]) fun a h => ?_
 refine s1 h rfl (v_build bld28 [] [_, _, _] rfl rfl) fun a h => ?_
 refine s1 h rfl (v_load1 rfl isAgg35 (H.zin _ _ hz3_24) rfl) fun a h => ?_
 refine s1 h rfl (v_mkIface mkI rfl) fun a h => ?_
 obtain ⟨y27, f27, hS⟩ := bo hS
 refine st2 h rfl rfl rfl (dC call19 (eval_Eval_ok f27 H.zin r24_12_1 hz2_18 lp2 (hG.ext H.out))) ?_
 rintro v_ w ⟨v74_28_1, rfl, r74_28_1, X⟩ a h
 obtain ⟨Z, hsub, hadd, H⟩ := H.adopt' X
 have r24_12_1 := r24_12_1.sub hsub
 have rs_12 := rs_12.sub hsub
 have hz2_18 := hsub _ _ hz2_18
 have hz3_24 := hsub _ _ hz3_24
 have r74_28_1 := r74_28_1.sub (ZB.empty.trans hadd)
 refine s1 h rfl (v_fieldA [_, _, _] rfl underlying51 rfl isAgg26 sizeOf26 rfl) fun a h => ?_
 refine zA h H zeroValue26 [_, _, _] (fun x => [_, _, _, _, x]) fun a p29 w X H h => ?_
 refine zS h H 4 sizeOf26 [_, _, _] [_, _, _] [_, _, _, _, _] fun w H => ?_
 refine cN k h [5, 11, 12, 13] [_, _, _, _] fun h => ?_
 refine fl h ?_
 refine F1 rfl (fun w X => have H := H.ext X; lA H 1 isAgg33 sizeOf33 [_, _, _, _, _, _, _, _, _, _, _, _, _, _, _, _, _]) ?_
 refine fC hS rfl (fun y30 f30 w X => have H := H.ext X; dC call20 (tree_Right_ok f30 (r24_12_1.hz H.zin) (hG.ext H.out) :)) fun y30 hS => ?_
 refine fcps 1 rfl ?_
 refine f_g [12, 78] rfl rfl rfl (gT rfl) rfl rfl (fun e0 w X => v_move rfl) ?_
 obtain ⟨z31, e31, hS⟩ := bv hS
 refine f_g [79, 78] rfl rfl rfl (gT rfl) rfl rfl (fun e0 w X => vB e31 (v_not (eg e0 rfl))) ?_
 refine f_g [80, 78] rfl rfl rfl (gT rfl) rfl rfl (fun e0 w X => v_move (eg e0 rfl)) ?_
 refine f_g [13, 81] rfl rfl rfl (ggF rfl) rfl rfl (fun e0 w X => v_fieldAddr rfl underlying26 rfl sizeOf3 rfl rfl) ?_
 refine f_g [82, 81] rfl rfl rfl (ggF rfl) rfl rfl (fun e0 w X => have H := H.ext X; v_load1 (eg e0 rfl) isAgg3 (H.hp.get 4 rfl) rfl) ?_
 obtain ⟨z32, e32, hS⟩ := bv hS
 refine f_g [83, 81] rfl rfl rfl (ggF rfl) rfl rfl (fun e0 w X => vB e32 (v_eq (eg e0 rfl) rfl)) ?_
 refine f_g [84, 81] rfl rfl rfl (ggF rfl) rfl rfl (fun e0 w X => v_move (eg e0 rfl)) ?_
 refine f_g [11, 85] rfl rfl rfl (ggT rfl) rfl rfl (fun e0 w X => v_move rfl) ?_
 obtain ⟨z33, e33, hS⟩ := bv hS
 refine f_g [86, 85] rfl rfl rfl (ggT rfl) rfl rfl (fun e0 w X => vB e33 (v_eq (eg e0 rfl) rfl)) ?_
 obtain ⟨z34, e34, hS⟩ := bv hS
 refine f_g [85, 87, 81] rfl rfl rfl (ggF rfl) rfl rfl (fun e0 w X => vB e34 (v_and (eg e0 rfl) (egn e0 rfl))) ?_
 obtain ⟨z35, e35, hS⟩ := bv hS
 refine f_g [81, 88, 78] rfl rfl rfl (gT rfl) rfl rfl (fun e0 w X => vB e35 (v_or (eg e0 rfl) (egn e0 rfl))) ?_
 refine f_g [89, 78] rfl rfl rfl (gT rfl) rfl rfl (fun e0 w X => v_move (eg e0 rfl)) ?_
 refine f_g [13, 90] rfl rfl rfl (ggF rfl) rfl rfl (fun e0 w X => have H := H.ext X; lA H 4 isAgg26 sizeOf26 [_, _, _]) ?_
 refine f_g [11, 90] rfl rfl rfl (ggF rfl) rfl rfl (fun e0 w X => v_move rfl) ?_
 obtain ⟨y36, f36, hS⟩ := bo hS
 refine f_gd (V := .agg #[.int .i64 y36.k, .int .i64 y36.n, S y36.s]) [92, 90] rfl rfl rfl (ggF rfl) rfl rfl (fun e0 w X => d_call [_] (evs_c (eg e0 rfl) evs_n) call14 (value_Num_ok (x0 := y26.1) (ifT e0 f36))) ?_
 obtain ⟨z37, e37, hS⟩ := bv hS
 refine f_g [91, 93, 90] rfl rfl rfl (ggF rfl) rfl rfl (fun e0 w X => vB e37 (v_aggeq (eg e0 rfl) (eg e0 rfl) age26 (agq26 _ _ _ _ _ _))) ?_
 obtain ⟨z38, e38, hS⟩ := bv hS
 refine f_g [90, 94, 78] rfl rfl rfl (gT rfl) rfl rfl (fun e0 w X => vB e38 (v_or (eg e0 rfl) (egn e0 rfl))) ?_
 refine f_g [95, 78] rfl rfl rfl (gT rfl) rfl rfl (fun e0 w X => v_move (eg e0 rfl)) ?_
 refine f_g [13, 96] rfl rfl rfl (ggF rfl) rfl rfl (fun e0 w X => have H := H.ext X; lA H 4 isAgg26 sizeOf26 [_, _, _]) ?_
 obtain ⟨y39, f39, hS⟩ := bo hS
 refine f_gd (V := .agg #[.int .i64 y39.k, .int .i64 y39.n, S y39.s]) [96] rfl rfl rfl (ggF rfl) rfl rfl (fun e0 w X => dC call21 (value_Fail_ok (x0 := (5 : Int)) (ifT e0 f39))) ?_
 obtain ⟨z40, e40, hS⟩ := bv hS
 refine f_g [97, 98, 96] rfl rfl rfl (ggF rfl) rfl rfl (fun e0 w X => vB e40 (v_aggeq (eg e0 rfl) (eg e0 rfl) age26 (agq26 _ _ _ _ _ _))) ?_
 obtain ⟨z41, e41, hS⟩ := bv hS
 refine f_g [96, 99, 78] rfl rfl rfl (gT rfl) rfl rfl (fun e0 w X => vB e41 (v_or (eg e0 rfl) (egn e0 rfl))) ?_
 refine fB hS rfl (fun w X => v_and rfl rfl) fun z42 e42 hS => ?_
 refine fcps 1 rfl ?_
 refine fE [4] [_] H fun a w X H h => ?_
 cases hS
 refine r1 hr h rfl rfl ⟨rfl, H.out⟩
 refine rg fun K k => ?_
 refine cps 1 h rfl fun a h => ?_
 refine s1 h rfl (v_len underlying22 rfl (rp1.at H.zin)) fun a h => ?_
 refine cps 1 h rfl fun a h => ?_
 refine cz k ?_
 refine lb ?_
 obtain ⟨B44, eB44, hS⟩ := bv hS
 refine lpJ (fun mu_ a w => ∃ (Z : FZ) (s44 : Int × (List V)), loopF B44 mu_ s44 = some res ∧ Fr 102 [(5, .pointer (some ⟨p13, 0, none⟩)), (6, .pointer (some ⟨p15, 0, none⟩)), (27, xv1), (28, .int .i64 (x1.length : Int)), (29, .int .i64 s44.1)] a ∧ HZ w0 Zi Z [.blk p1 (Cel [sv_12] 23), .blk p13 (Cel [.int .i64 y11.1.k, .int .i64 y11.1.op, .int .i64 y11.1.v.k, .int .i64 y11.1.v.n, S y11.1.v.s, .int .i64 y11.1.a.c.s, .int .i64 y11.1.a.c.c, .int .i64 y11.1.a.c.r, .bool y11.1.a.ac, .bool y11.1.a.ar, .int .i64 y11.1.b.c.s, .int .i64 y11.1.b.c.c, .int .i64 y11.1.b.c.r, .bool y11.1.b.ac, .bool y11.1.b.ar, S y11.1.nm, v24_12_1] 33), .blk p14 (Cel ((s44.2 : List V).flatMap vL) 39), .blk p15 (Cel [.pointer (some ⟨p14, 0, none⟩)] 35)] w ∧ RdZ Z xv1 1 (eI .u8) x1 ∧ RdZ Z sv_12 1 (eI .u8) y11.2 ∧ RdN Z v24_12_1 nodeEnc y11.1.l ∧ s44.2.length = 128) KK ⟨_, _, hS, h.to, H, rp1, rs_12, r24_12_1, lp2⟩ ?_
 rintro mu_ a w ⟨Z, s44, hS, h, H, rp1, rs_12, r24_12_1, lp2⟩
 obtain ⟨mu_, rfl, n44, en44, hS⟩ := lpX eB44 hS
 refine rg fun K k => ?_
 refine sB h hS rfl (v_lt rfl rfl) fun z46 e46 hS a h => ?_
 refine cz k ?_
 refine sq ?_
 refine cI h hS rfl (fun ec48 hS => ?_) fun ec48 hS => ?_
 refine c_skip ?_
 refine sb ?_
 refine rg fun K k => ?_
 refine cps 1 h rfl fun a h => ?_
 obtain ⟨c50, hS⟩ := ck hS
 obtain ⟨z51, e51, hS⟩ := bv hS
 refine st_idx h underlying22 sizeOf5 rfl rfl (rp1.at H.zin) (fun _ => rfl) z51 c50.1 (by rw [e51]; exact gel_some c50) rfl fun a v32 A32 h => ?_
 refine s1 h rfl (v_loadAt1 rfl A32 isAgg5 rfl) fun a h => ?_
 refine cps 2 h rfl fun a h => ?_
 refine cN k h [5, 6, 7, 8, 27, 28, 29] [_, _, _, _, _, _, _] fun h => ?_
 refine rg fun K k => ?_
 refine cps 1 h rfl fun a h => ?_
 refine sB h hS rfl (v_lt rfl rfl) fun z52 e52 hS a h => ?_
 refine cps 1 h rfl fun a h => ?_
 refine st_g h rfl rfl (gT rfl) rfl rfl (fun e0 => v_move rfl) fun a h => ?_
 obtain ⟨z53, e53, hS⟩ := bv hS
 refine st_g h rfl rfl (gT rfl) rfl rfl (fun e0 => vI e53 (v_bits_and (eg e0 rfl) rfl)) fun a h => ?_
 obtain ⟨z54, e54, hS⟩ := bv hS
 refine st_g h rfl rfl (gT rfl) rfl rfl (fun e0 => vB e54 (v_gt (eg e0 rfl) rfl)) fun a h => ?_
 refine sB h hS rfl (v_and rfl rfl) fun z55 e55 hS a h => ?_
 refine cN k h [5, 6, 7, 8, 27, 28, 29, 40] [_, _, _, _, _, _, _, _] fun h => ?_
 refine cI h hS rfl (fun ec56 hS => ?_) fun ec56 hS => ?_
 refine c_lflowT 13 h (by kernel_rfl) (by kernel_rfl) ?_
 refine F1 rfl (fun w X => have H := H.ext X; l1 H 3 isAgg35) ?_
 refine fcps 1 rfl ?_
 refine fI hS rfl (fun w X => v_bits_and rfl rfl) fun z57 e57 hS => ?_
 refine fcps 1 rfl ?_
 refine fI hS rfl (fun w X => v_quow rfl rfl (by decide)) fun z58 e58 hS => ?_
 refine fcps 1 rfl ?_
 refine fI hS rfl (fun w X => v_convInt (by rw [underlying5]; rfl) underlying2 rfl rfl) fun z59 e59 hS => ?_
 refine fI hS rfl (fun w X => v_mulw rfl rfl) fun z60 e60 hS => ?_
 refine fC hS rfl (fun y61 f61 w X => dC call14 (value_Num_ok f61 :)) fun y61 hS => ?_
 refine F1 rfl (fun w X => v_nilCheck rfl) ?_
 refine F1 rfl (fun w X => v_fieldAddr rfl underlying39 rfl sizeOf37 rfl rfl) ?_
 obtain ⟨c62, hS⟩ := ck hS
 refine F1 rfl (fun w X => v_idxArrG underlying37 sizeOf36 rfl rfl c62) ?_
 obtain ⟨c63, hS⟩ := ck hS
 refine F1 rfl (fun w X => v_idxArrG underlying36 sizeOf26 rfl rfl c63) ?_
 refine fE [5, 6, 27, 28, 29, 49, 53] [_, _, _, _, _, _, _] H fun a w X H h => ?_
 obtain ⟨zp2_64, ezp2_64, hS⟩ := bv hS
 refine z_storeEl (enc := vL) (xs := s44.2) (v := y61) (Int.toNat (64 * z57 + z58)) h H 2 rfl rfl rfl sizeOf26 (fun _ => rfl) rfl (by omega) (by dsimp only; omega) (hl' := [_, _, _, _]) rfl fun w H => ?_
 rw [← ezp2_64] at H
 have lp2 : zp2_64.length = 128 := by rw [ezp2_64, List.length_set]; exact lp2
 have H : HZ w0 _ _ [_, _, _, _] _ := H
 refine c_lnil ?_
 refine c_lregion ?_
 refine sI h hS rfl (v_addw rfl rfl) fun z65 e65 hS a h => ?_
 refine cps 1 h rfl fun a h => ?_
 refine c_lnil ?_
 exact exL (ex2 ⟨lpN en44 hS, h.to, H, rp1, rs_12, r24_12_1, lp2⟩)
 refine c_skip ?_
 refine c_lregion ?_
 refine sI h hS rfl (v_addw rfl rfl) fun z66 e66 hS a h => ?_
 refine cps 1 h rfl fun a h => ?_
 refine c_lnil ?_
 exact exL (ex2 ⟨lpN en44 hS, h.to, H, rp1, rs_12, r24_12_1, lp2⟩)
 exact c_exit (ex2 ⟨hS, h.to, H, rs_12, r24_12_1, lp2⟩)
end Go.Proofs.YtcecjdnkcbfhlaaGreatDoor
