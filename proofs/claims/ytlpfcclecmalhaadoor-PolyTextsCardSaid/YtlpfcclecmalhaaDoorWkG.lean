/- Walks: the code computes what the partial functions say. -/
import Derived.Test.YtlpfcclecmalhaaDoorSpG
import Derived.Test.YtlpfcclecmalhaaDoorWkD
set_option linter.unusedSimpArgs false
set_option linter.unusedVariables false
set_option linter.unusedSectionVars false
namespace Go.Proofs.YtlpfcclecmalhaaDoor
open Go.Stp Go.RowKit Go.ValP Go.Sp _root_.Go.Proofs.Tryd
set_option maxRecDepth 100000
theorem reckonerlaw15_PolyTexts_ok {x0 : List (Int)} {x1 : List (Int)} {x2 : C} {res : Bool} {w0 : World} (hS : reckonerlaw15_PolyTexts x0 x1 x2 = some res) {xv0 : Value} (rp0 : RdZ (hz w0) xv0 1 (eI .u8) x0) {xv1 : Value} (rp1 : RdZ (hz w0) xv1 1 (eI .u8) x1) (hG : GW w0) : Calls Tryd.prog 5 [xv0, xv1, .agg #[.int .i64 x2.s, .int .i64 x2.c, .int .i64 x2.r]].toArray w0 (Ret fun v w => v = .bool res ∧ Ext w0 w) := by
 refine en func5 [0, 1, 2] [_, _, _] fun Q a Zi Z hzs H h hr => ?_
 have rp0 := rp0.sub hzs
 have rp1 := rp1.sub hzs
 clear hzs
 unfold reckonerlaw15_PolyTexts at hS
 refine rg fun K k => ?_
 refine z_box h H rfl [_, _, _] rfl rfl fun a p1 w X H h => ?_
 have H : HZ w0 _ _ [_] _ := H
 refine cps 1 h rfl fun a h => ?_
 refine cz k ?_
 refine sq ?_
 refine rg fun K k => ?_
 refine sC h H hS rfl (fun y3 f3 => dC call10 (reckonerlaw15_fit_ok f3 (hG.ext H.out) :)) fun y3 hS w X H a h => ?_
 refine sB h hS rfl (v_not rfl) fun z4 e4 hS a h => ?_
 refine cz k ?_
 refine cI h hS rfl (fun ec5 hS => ?_) fun ec5 hS => ?_
 refine rg fun K k => ?_
 refine cps 1 h rfl fun a h => ?_
 refine cN k h [6] [_] fun h => ?_
 cases hS
 refine r1 hr h rfl rfl ⟨rfl, H.out⟩
 refine c_skip ?_
 refine cO h [0, 1, 5] [_, _, _] fun h => ?_
 refine rg fun K k => ?_
 refine cps 1 h rfl fun a h => ?_
 obtain ⟨y6, f6, hS⟩ := bo hS
 refine st2 h rfl rfl rfl (dC call11 (reckonerlaw15_Make_ok (x0 := x0) f6 H.zin rp0)) ?_
 rintro v_ w ⟨v19_7_1, rfl, r19_7_1, X⟩ a h
 obtain ⟨Z, hsub, hadd, H⟩ := H.adopt' X
 have rp0 := rp0.sub hsub
 have rp1 := rp1.sub hsub
 have r19_7_1 := r19_7_1.sub hadd
 refine cps 5 h rfl fun a h => ?_
 refine cN k h [1, 5, 7, 8] [_, _, _, _] fun h => ?_
 refine rg fun K k => ?_
 refine cps 1 h rfl fun a h => ?_
 obtain ⟨y8, f8, hS⟩ := bo hS
 refine st2 h rfl rfl rfl (dC call11 (reckonerlaw15_Make_ok (x0 := x1) f8 H.zin rp1)) ?_
 rintro v_ w ⟨v24_9_1, rfl, r24_9_1, X⟩ a h
 obtain ⟨Z, hsub, hadd, H⟩ := H.adopt' X
 have r19_7_1 := r19_7_1.sub hsub
 have rp0 := rp0.sub hsub
 have rp1 := rp1.sub hsub
 have r24_9_1 := r24_9_1.sub hadd
 refine cps 5 h rfl fun a h => ?_
 refine cN k h [5, 7, 8, 9, 10] [_, _, _, _, _] fun h => ?_
 refine sq ?_
 refine rg fun K k => ?_
 refine cps 1 h rfl fun a h => ?_
 refine sB h hS rfl (v_not rfl) fun z11 e11 hS a h => ?_
 refine cps 1 h rfl fun a h => ?_
 refine st_g h rfl rfl (gF rfl) rfl rfl (fun e0 => v_move rfl) fun a h => ?_
 obtain ⟨z12, e12, hS⟩ := bv hS
 refine st_g h rfl rfl (gF rfl) rfl rfl (fun e0 => vB e12 (v_not (eg e0 rfl))) fun a h => ?_
 refine sB h hS rfl (v_or rfl rfl) fun z13 e13 hS a h => ?_
 refine cps 1 h rfl fun a h => ?_
 refine st_g h rfl rfl (gF rfl) rfl rfl (fun e0 => v_fieldAddr rfl underlying40 rfl sizeOf3 rfl rfl) fun a h => ?_
 refine st_g h rfl rfl (gF rfl) rfl rfl (fun e0 => v_load1 (eg e0 rfl) isAgg3 (H.hp.get 0 rfl) rfl) fun a h => ?_
 obtain ⟨z14, e14, hS⟩ := bv hS
 refine st_g h rfl rfl (gF rfl) rfl rfl (fun e0 => vB e14 (v_lt (eg e0 rfl) rfl)) fun a h => ?_
 refine sB h hS rfl (v_or rfl rfl) fun z15 e15 hS a h => ?_
 refine cps 1 h rfl fun a h => ?_
 refine st_g h rfl rfl (gF rfl) rfl rfl (fun e0 => v_fieldAddr rfl underlying40 rfl sizeOf3 rfl rfl) fun a h => ?_
 refine st_g h rfl rfl (gF rfl) rfl rfl (fun e0 => v_load1 (eg e0 rfl) isAgg3 (H.hp.get 0 rfl) rfl) fun a h => ?_
 obtain ⟨z16, e16, hS⟩ := bv hS
 refine st_g h rfl rfl (gF rfl) rfl rfl (fun e0 => vB e16 (v_gt (eg e0 rfl) rfl)) fun a h => ?_
 refine sB h hS rfl (v_or rfl rfl) fun z17 e17 hS a h => ?_
 refine cps 1 h rfl fun a h => ?_
 refine st_g h rfl rfl (gF rfl) rfl rfl (fun e0 => v_fieldAddr rfl underlying40 rfl sizeOf3 rfl rfl) fun a h => ?_
 refine st_g h rfl rfl (gF rfl) rfl rfl (fun e0 => v_load1 (eg e0 rfl) isAgg3 (H.hp.get 0 rfl) rfl) fun a h => ?_
 obtain ⟨z18, e18, hS⟩ := bv hS
 refine st_g h rfl rfl (gF rfl) rfl rfl (fun e0 => vB e18 (v_lt (eg e0 rfl) rfl)) fun a h => ?_
 refine sB h hS rfl (v_or rfl rfl) fun z19 e19 hS a h => ?_
 refine cps 1 h rfl fun a h => ?_
 refine st_g h rfl rfl (gF rfl) rfl rfl (fun e0 => v_fieldAddr rfl underlying40 rfl sizeOf3 rfl rfl) fun a h => ?_
 refine st_g h rfl rfl (gF rfl) rfl rfl (fun e0 => v_load1 (eg e0 rfl) isAgg3 (H.hp.get 0 rfl) rfl) fun a h => ?_
 obtain ⟨z20, e20, hS⟩ := bv hS
 refine st_g h rfl rfl (gF rfl) rfl rfl (fun e0 => vB e20 (v_gt (eg e0 rfl) rfl)) fun a h => ?_
 refine sB h hS rfl (v_or rfl rfl) fun z21 e21 hS a h => ?_
 refine cps 1 h rfl fun a h => ?_
 refine st_g h rfl rfl (gF rfl) rfl rfl (fun e0 => v_fieldAddr rfl underlying40 rfl sizeOf3 rfl rfl) fun a h => ?_
 refine st_g h rfl rfl (gF rfl) rfl rfl (fun e0 => v_load1 (eg e0 rfl) isAgg3 (H.hp.get 0 rfl) rfl) fun a h => ?_
 obtain ⟨z22, e22, hS⟩ := bv hS
 refine st_g h rfl rfl (gF rfl) rfl rfl (fun e0 => vB e22 (v_lt (eg e0 rfl) rfl)) fun a h => ?_
 refine sB h hS rfl (v_or rfl rfl) fun z23 e23 hS a h => ?_
 refine cps 1 h rfl fun a h => ?_
 refine st_g h rfl rfl (gF rfl) rfl rfl (fun e0 => v_fieldAddr rfl underlying40 rfl sizeOf3 rfl rfl) fun a h => ?_
 refine st_g h rfl rfl (gF rfl) rfl rfl (fun e0 => v_load1 (eg e0 rfl) isAgg3 (H.hp.get 0 rfl) rfl) fun a h => ?_
 obtain ⟨z24, e24, hS⟩ := bv hS
 refine st_g h rfl rfl (gF rfl) rfl rfl (fun e0 => vB e24 (v_gt (eg e0 rfl) rfl)) fun a h => ?_
 refine sB h hS rfl (v_or rfl rfl) fun z25 e25 hS a h => ?_
 refine cN k h [5, 7, 9, 62] [_, _, _, _] fun h => ?_
 refine cI h hS rfl (fun ec26 hS => ?_) fun ec26 hS => ?_
 refine rg fun K k => ?_
 refine cps 1 h rfl fun a h => ?_
 refine cN k h [6] [_] fun h => ?_
 cases hS
 refine r1 hr h rfl rfl ⟨rfl, H.out⟩
 refine c_skip ?_
 refine rg fun K k => ?_
 refine cps 1 h rfl fun a h => ?_
 refine s1 h rfl (v_lenN underlying25 rfl r19_7_1 H.zin) fun a h => ?_
 refine cps 1 h rfl fun a h => ?_
 refine s1 h rfl (v_lenN underlying25 rfl r24_9_1 H.zin) fun a h => ?_
 refine sB h hS rfl (v_eq rfl rfl) fun z27 e27 hS a h => ?_
 refine cps 1 h rfl fun a h => ?_
 refine cN k h [5, 7, 9, 11] [_, _, _, _] fun h => ?_
 obtain ⟨J29, eJ29, hS⟩ := bv hS
 refine sqJ (fun a w => ∃ (Z : FZ) (s29 : Bool), J29 s29 = some res ∧ Fr 175 [(5, .pointer (some ⟨p1, 0, none⟩)), (7, v19_7_1), (9, v24_9_1), (11, .bool s29)] a ∧ HZ w0 Zi Z [.blk p1 (Cel [.int .i64 x2.s, .int .i64 x2.c, .int .i64 x2.r] 40)] w ∧ RdN Z v19_7_1 termEnc y6.1 ∧ RdN Z v24_9_1 termEnc y8.1) ?_ ?_
 rintro a w ⟨Z, s29, hS, h, H, r19_7_1, r24_9_1⟩
 subst eJ29
 refine rg fun K k => ?_
 refine s1 h rfl (lA H 0 isAgg40 sizeOf40 [_, _, _]) fun a h => ?_
 obtain ⟨y30, f30, hS⟩ := bo hS
 refine st2 h rfl rfl rfl (dC call17 (poly_Var_ok (x0 := x2) f30 H.zin)) ?_
 rintro v137_32_1 w ⟨r137_32_1, X⟩ a h
 obtain ⟨Z, hsub, hadd, H⟩ := H.adopt' X
 have r19_7_1 := r19_7_1.sub hsub
 have r24_9_1 := r24_9_1.sub hsub
 have r137_32_1 := r137_32_1.sub hadd
 refine cps 1 h rfl fun a h => ?_
 refine cz k ?_
 refine fl h ?_
 refine fcps 1 rfl ?_
 refine fC hS rfl (fun y33 f33 w X => have H := H.ext X; dC call15 (poly_Print_ok f33 (r19_7_1.hz H.zin) (hG.ext H.out) :)) fun y33 hS => ?_
 refine fcps 1 rfl ?_
 refine fC hS rfl (fun y34 f34 w X => have H := H.ext X; dC call15 (poly_Print_ok f34 (r24_9_1.hz H.zin) (hG.ext H.out) :)) fun y34 hS => ?_
 refine fB hS rfl (fun w X => v_seq rfl rfl) fun z35 e35 hS => ?_
 refine fcps 1 rfl ?_
 refine fB hS rfl (fun w X => v_beq underlying4 rfl rfl) fun z36 e36 hS => ?_
 refine fcps 1 rfl ?_
 refine f_g [14, 145] rfl rfl rfl (gT rfl) rfl rfl (fun e0 w X => v_move rfl) ?_
 refine f_g [146, 145] rfl rfl rfl (gT rfl) rfl rfl (fun e0 w X => have H := H.ext X; v_lenN underlying25 (eg e0 rfl) r137_32_1 H.zin) ?_
 obtain ⟨z37, e37, hS⟩ := bv hS
 refine f_g [147, 145] rfl rfl rfl (gT rfl) rfl rfl (fun e0 w X => vB e37 (v_eq (eg e0 rfl) rfl)) ?_
 refine fB hS rfl (fun w X => v_and rfl rfl) fun z38 e38 hS => ?_
 refine fcps 1 rfl ?_
 refine f_g [14, 150] rfl rfl rfl (gT rfl) rfl rfl (fun e0 w X => v_move rfl) ?_
 obtain ⟨c39, hS⟩ := ck hS
 obtain ⟨z40, e40, hS⟩ := bv hS
 have q_41 := r137_32_1.gel ⟨_, termEnc_dflt⟩ 0
 rw [← e40] at q_41
 obtain ⟨css_41, cl_41, rc_41, hc_41, v152_41_1, hcs_41, r152_41_1⟩ := q_41
 refine f_gR (R := (fun w' v' => At w' v' (fun _ : Unit => [.int .i64 z40.n, v152_41_1]) () 0)) (c := z38) [151, 150] rfl rfl rfl rfl rfl at_stab (fun w X => ?_) ?_
 skip
 exact ⟨(gT rfl), fun e0 => have H := H.ext X; d_idxC underlying25 sizeOf35 (eg e0 rfl) rfl (rc_41.at H.zin) (c39 e0).1 (hc_41 (c39 e0)) hcs_41⟩
 refine f_gR (R := (fun w' v' => At w' v' (fun _ : Unit => [.int .i64 z40.n, v152_41_1]) () 0)) (c := z38) [152, 150] rfl rfl rfl rfl rfl at_stab (fun w X => ?_) ?_
 intro v152 h152
 exact ⟨(gT rfl), fun e0 => d_field rfl (h152 e0) underlying35 rfl sizeOf2 rfl rfl⟩
 refine f_gE (V := .int .i64 z40.n) (c := z38) [153, 150] rfl rfl rfl rfl rfl (fun w X => ?_) ?_
 intro v153 h153
 exact ⟨(gT rfl), fun e0 => (v_loadAt1 rfl (h153 e0) isAgg2 rfl).doesF⟩
 obtain ⟨z42, e42, hS⟩ := bv hS
 refine f_g [154, 150] rfl rfl rfl (gT rfl) rfl rfl (fun e0 w X => vB e42 (v_eq (eg e0 rfl) rfl)) ?_
 refine fB hS rfl (fun w X => v_and rfl rfl) fun z43 e43 hS => ?_
 refine fcps 1 rfl ?_
 refine f_g [14, 157] rfl rfl rfl (gT rfl) rfl rfl (fun e0 w X => v_move rfl) ?_
 obtain ⟨c44, hS⟩ := ck hS
 obtain ⟨z45, e45, hS⟩ := bv hS
 have q_46 := r137_32_1.gel ⟨_, termEnc_dflt⟩ 0
 rw [← e45] at q_46
 obtain ⟨css_46, cl_46, rc_46, hc_46, v159_46_1, hcs_46, r159_46_1⟩ := q_46
 refine f_gR (R := (fun w' v' => At w' v' (fun _ : Unit => [.int .i64 z45.n, v159_46_1]) () 0)) (c := z43) [158, 157] rfl rfl rfl rfl rfl at_stab (fun w X => ?_) ?_
 skip
 exact ⟨(gT rfl), fun e0 => have H := H.ext X; d_idxC underlying25 sizeOf35 (eg e0 rfl) rfl (rc_46.at H.zin) (c44 e0).1 (hc_46 (c44 e0)) hcs_46⟩
 refine f_gR (R := (fun w' v' => At w' v' (fun _ : Unit => [.int .i64 z45.n, v159_46_1]) () 1)) (c := z43) [159, 157] rfl rfl rfl rfl rfl at_stab (fun w X => ?_) ?_
 intro v159 h159
 exact ⟨(gT rfl), fun e0 => d_field rfl (h159 e0) underlying35 rfl sizeOf33 rfl rfl⟩
 refine f_gE (V := v159_46_1) (c := z43) [160, 157] rfl rfl rfl rfl rfl (fun w X => ?_) ?_
 intro v160 h160
 exact ⟨(gT rfl), fun e0 => (v_loadAt1 rfl (h160 e0) isAgg33 rfl).doesF⟩
 refine f_g [161, 157] rfl rfl rfl (gT rfl) rfl rfl (fun e0 w X => have H := H.ext X; v_len underlying33 (eg e0 rfl) (r159_46_1.at H.zin)) ?_
 obtain ⟨z47, e47, hS⟩ := bv hS
 refine f_g [162, 157] rfl rfl rfl (gT rfl) rfl rfl (fun e0 w X => vB e47 (v_eq (eg e0 rfl) rfl)) ?_
 refine fB hS rfl (fun w X => v_and rfl rfl) fun z48 e48 hS => ?_
 refine fcps 1 rfl ?_
 refine f_g [14, 165] rfl rfl rfl (gT rfl) rfl rfl (fun e0 w X => v_move rfl) ?_
 obtain ⟨c49, hS⟩ := ck hS
 obtain ⟨z50, e50, hS⟩ := bv hS
 have q_51 := r137_32_1.gel ⟨_, termEnc_dflt⟩ 0
 rw [← e50] at q_51
 obtain ⟨css_51, cl_51, rc_51, hc_51, v167_51_1, hcs_51, r167_51_1⟩ := q_51
 refine f_gR (R := (fun w' v' => At w' v' (fun _ : Unit => [.int .i64 z50.n, v167_51_1]) () 0)) (c := z48) [166, 165] rfl rfl rfl rfl rfl at_stab (fun w X => ?_) ?_
 skip
 exact ⟨(gT rfl), fun e0 => have H := H.ext X; d_idxC underlying25 sizeOf35 (eg e0 rfl) rfl (rc_51.at H.zin) (c49 e0).1 (hc_51 (c49 e0)) hcs_51⟩
 refine f_gR (R := (fun w' v' => At w' v' (fun _ : Unit => [.int .i64 z50.n, v167_51_1]) () 1)) (c := z48) [167, 165] rfl rfl rfl rfl rfl at_stab (fun w X => ?_) ?_
 intro v167 h167
 exact ⟨(gT rfl), fun e0 => d_field rfl (h167 e0) underlying35 rfl sizeOf33 rfl rfl⟩
 refine f_gE (V := v167_51_1) (c := z48) [168, 165] rfl rfl rfl rfl rfl (fun w X => ?_) ?_
 intro v168 h168
 exact ⟨(gT rfl), fun e0 => (v_loadAt1 rfl (h168 e0) isAgg33 rfl).doesF⟩
 obtain ⟨c52, hS⟩ := ck hS
 obtain ⟨z53, e53, hS⟩ := bv hS
 refine f_gR (R := (fun w' v' => At w' v' cL z53 0)) (c := z48) [169, 165] rfl rfl rfl rfl rfl at_stab (fun w X => ?_) ?_
 skip
 exact ⟨(gT rfl), fun e0 => have H := H.ext X; d_idx underlying33 sizeOf40 (eg e0 rfl) rfl (r167_51_1.at H.zin) (fun _ => rfl) z53 (c52 e0).1 (by rw [e53]; exact gel_some (c52 e0))⟩
 refine f_gE (V := .agg #[.int .i64 z53.s, .int .i64 z53.c, .int .i64 z53.r]) (c := z48) [170, 165] rfl rfl rfl rfl rfl (fun w X => ?_) ?_
 intro v170 h170
 exact ⟨(gT rfl), fun e0 => (v_loadAtA [_, _, _] rfl (h170 e0) isAgg40 sizeOf40 rfl rfl).doesF⟩
 refine f_g [5, 165] rfl rfl rfl (gT rfl) rfl rfl (fun e0 w X => have H := H.ext X; lA H 0 isAgg40 sizeOf40 [_, _, _]) ?_
 obtain ⟨z54, e54, hS⟩ := bv hS
 refine f_g [171, 172, 165] rfl rfl rfl (gT rfl) rfl rfl (fun e0 w X => vB e54 (v_aggeq (eg e0 rfl) (eg e0 rfl) age40 (agq40 _ _ _ _ _ _))) ?_
 refine fB hS rfl (fun w X => v_and rfl rfl) fun z55 e55 hS => ?_
 refine fcps 1 rfl ?_
 refine fE [6] [_] H fun a w X H h => ?_
 cases hS
 refine r1 hr h rfl rfl ⟨rfl, H.out⟩
 refine rg fun K k => ?_
 refine cps 1 h rfl fun a h => ?_
 refine s1 h rfl (v_lenN underlying25 rfl r19_7_1 H.zin) fun a h => ?_
 refine cps 1 h rfl fun a h => ?_
 refine s1 h rfl (v_lenN underlying25 rfl r24_9_1 H.zin) fun a h => ?_
 refine sI h hS rfl (v_min underlying3 rfl rfl) fun z56 e56 hS a h => ?_
 refine cps 1 h rfl fun a h => ?_
 refine cN k h [5, 7, 9, 11, 72, 73] [_, _, _, _, _, _] fun h => ?_
 refine lb ?_
 obtain ⟨B58, eB58, hS⟩ := bv hS
 refine lpJ (fun mu_ a w => ∃ (Z : FZ) (s58 : Bool × Int), loopF B58 mu_ s58 = some res ∧ Fr 175 [(5, .pointer (some ⟨p1, 0, none⟩)), (7, v19_7_1), (9, v24_9_1), (11, .bool s58.1), (72, .int .i64 z56), (73, .int .i64 s58.2)] a ∧ HZ w0 Zi Z [.blk p1 (Cel [.int .i64 x2.s, .int .i64 x2.c, .int .i64 x2.r] 40)] w ∧ RdN Z v19_7_1 termEnc y6.1 ∧ RdN Z v24_9_1 termEnc y8.1) KK ⟨_, _, hS, h.to, H, r19_7_1, r24_9_1⟩ ?_
 rintro mu_ a w ⟨Z, s58, hS, h, H, r19_7_1, r24_9_1⟩
 obtain ⟨mu_, rfl, n58, en58, hS⟩ := lpX eB58 hS
 refine rg fun K k => ?_
 refine sB h hS rfl (v_lt rfl rfl) fun z60 e60 hS a h => ?_
 refine cz k ?_
 refine sq ?_
 refine cI h hS rfl (fun ec62 hS => ?_) fun ec62 hS => ?_
 refine c_skip ?_
 refine sb ?_
 refine rg fun K k => ?_
 refine cps 2 h rfl fun a h => ?_
 refine cz k ?_
 refine fl h ?_
 refine fcps 2 rfl ?_
 refine f_g [7, 77] rfl rfl rfl (gT rfl) rfl rfl (fun e0 w X => v_move rfl) ?_
 refine f_g [12, 77] rfl rfl rfl (gT rfl) rfl rfl (fun e0 w X => v_move rfl) ?_
 obtain ⟨c64, hS⟩ := ck hS
 obtain ⟨z65, e65, hS⟩ := bv hS
 have q_66 := r19_7_1.gel ⟨_, termEnc_dflt⟩ s58.2
 rw [← e65] at q_66
 obtain ⟨css_66, cl_66, rc_66, hc_66, v80_66_1, hcs_66, r80_66_1⟩ := q_66
 refine f_gR (R := (fun w' v' => At w' v' (fun _ : Unit => [.int .i64 z65.n, v80_66_1]) () 0)) (c := s58.1) [78, 79, 77] rfl rfl rfl rfl rfl at_stab (fun w X => ?_) ?_
 skip
 exact ⟨(gT rfl), fun e0 => have H := H.ext X; d_idxC underlying25 sizeOf35 (eg e0 rfl) (eg e0 rfl) (rc_66.at H.zin) (c64 e0).1 (hc_66 (c64 e0)) hcs_66⟩
 refine f_gR (R := (fun w' v' => At w' v' (fun _ : Unit => [.int .i64 z65.n, v80_66_1]) () 0)) (c := s58.1) [80, 77] rfl rfl rfl rfl rfl at_stab (fun w X => ?_) ?_
 intro v80 h80
 exact ⟨(gT rfl), fun e0 => d_field rfl (h80 e0) underlying35 rfl sizeOf2 rfl rfl⟩
 refine f_gE (V := .int .i64 z65.n) (c := s58.1) [81, 77] rfl rfl rfl rfl rfl (fun w X => ?_) ?_
 intro v81 h81
 exact ⟨(gT rfl), fun e0 => (v_loadAt1 rfl (h81 e0) isAgg2 rfl).doesF⟩
 refine f_g [9, 77] rfl rfl rfl (gT rfl) rfl rfl (fun e0 w X => v_move rfl) ?_
 refine f_g [12, 77] rfl rfl rfl (gT rfl) rfl rfl (fun e0 w X => v_move rfl) ?_
 obtain ⟨c67, hS⟩ := ck hS
 obtain ⟨z68, e68, hS⟩ := bv hS
 have q_69 := r24_9_1.gel ⟨_, termEnc_dflt⟩ s58.2
 rw [← e68] at q_69
 obtain ⟨css_69, cl_69, rc_69, hc_69, v85_69_1, hcs_69, r85_69_1⟩ := q_69
 refine f_gR (R := (fun w' v' => At w' v' (fun _ : Unit => [.int .i64 z68.n, v85_69_1]) () 0)) (c := s58.1) [83, 84, 77] rfl rfl rfl rfl rfl at_stab (fun w X => ?_) ?_
 skip
 exact ⟨(gT rfl), fun e0 => have H := H.ext X; d_idxC underlying25 sizeOf35 (eg e0 rfl) (eg e0 rfl) (rc_69.at H.zin) (c67 e0).1 (hc_69 (c67 e0)) hcs_69⟩
 refine f_gR (R := (fun w' v' => At w' v' (fun _ : Unit => [.int .i64 z68.n, v85_69_1]) () 0)) (c := s58.1) [85, 77] rfl rfl rfl rfl rfl at_stab (fun w X => ?_) ?_
 intro v85 h85
 exact ⟨(gT rfl), fun e0 => d_field rfl (h85 e0) underlying35 rfl sizeOf2 rfl rfl⟩
 refine f_gE (V := .int .i64 z68.n) (c := s58.1) [86, 77] rfl rfl rfl rfl rfl (fun w X => ?_) ?_
 intro v86 h86
 exact ⟨(gT rfl), fun e0 => (v_loadAt1 rfl (h86 e0) isAgg2 rfl).doesF⟩
 obtain ⟨z70, e70, hS⟩ := bv hS
 refine f_g [82, 87, 77] rfl rfl rfl (gT rfl) rfl rfl (fun e0 w X => vB e70 (v_eq (eg e0 rfl) (eg e0 rfl))) ?_
 refine fB hS rfl (fun w X => v_and rfl rfl) fun z71 e71 hS => ?_
 refine fcps 1 rfl ?_
 refine f_g [7, 90] rfl rfl rfl (gT rfl) rfl rfl (fun e0 w X => v_move rfl) ?_
 refine f_g [12, 90] rfl rfl rfl (gT rfl) rfl rfl (fun e0 w X => v_move rfl) ?_
 obtain ⟨c72, hS⟩ := ck hS
 obtain ⟨z73, e73, hS⟩ := bv hS
 have q_74 := r19_7_1.gel ⟨_, termEnc_dflt⟩ s58.2
 rw [← e73] at q_74
 obtain ⟨css_74, cl_74, rc_74, hc_74, v93_74_1, hcs_74, r93_74_1⟩ := q_74
 refine f_gR (R := (fun w' v' => At w' v' (fun _ : Unit => [.int .i64 z73.n, v93_74_1]) () 0)) (c := z71) [91, 92, 90] rfl rfl rfl rfl rfl at_stab (fun w X => ?_) ?_
 skip
 exact ⟨(gT rfl), fun e0 => have H := H.ext X; d_idxC underlying25 sizeOf35 (eg e0 rfl) (eg e0 rfl) (rc_74.at H.zin) (c72 e0).1 (hc_74 (c72 e0)) hcs_74⟩
 refine f_gR (R := (fun w' v' => At w' v' (fun _ : Unit => [.int .i64 z73.n, v93_74_1]) () 1)) (c := z71) [93, 90] rfl rfl rfl rfl rfl at_stab (fun w X => ?_) ?_
 intro v93 h93
 exact ⟨(gT rfl), fun e0 => d_field rfl (h93 e0) underlying35 rfl sizeOf33 rfl rfl⟩
 refine f_gE (V := v93_74_1) (c := z71) [94, 90] rfl rfl rfl rfl rfl (fun w X => ?_) ?_
 intro v94 h94
 exact ⟨(gT rfl), fun e0 => (v_loadAt1 rfl (h94 e0) isAgg33 rfl).doesF⟩
 refine f_g [95, 90] rfl rfl rfl (gT rfl) rfl rfl (fun e0 w X => have H := H.ext X; v_len underlying33 (eg e0 rfl) (r93_74_1.at H.zin)) ?_
 refine f_g [9, 90] rfl rfl rfl (gT rfl) rfl rfl (fun e0 w X => v_move rfl) ?_
 refine f_g [12, 90] rfl rfl rfl (gT rfl) rfl rfl (fun e0 w X => v_move rfl) ?_
 obtain ⟨c75, hS⟩ := ck hS
 obtain ⟨z76, e76, hS⟩ := bv hS
 have q_77 := r24_9_1.gel ⟨_, termEnc_dflt⟩ s58.2
 rw [← e76] at q_77
 obtain ⟨css_77, cl_77, rc_77, hc_77, v99_77_1, hcs_77, r99_77_1⟩ := q_77
 refine f_gR (R := (fun w' v' => At w' v' (fun _ : Unit => [.int .i64 z76.n, v99_77_1]) () 0)) (c := z71) [97, 98, 90] rfl rfl rfl rfl rfl at_stab (fun w X => ?_) ?_
 skip
 exact ⟨(gT rfl), fun e0 => have H := H.ext X; d_idxC underlying25 sizeOf35 (eg e0 rfl) (eg e0 rfl) (rc_77.at H.zin) (c75 e0).1 (hc_77 (c75 e0)) hcs_77⟩
 refine f_gR (R := (fun w' v' => At w' v' (fun _ : Unit => [.int .i64 z76.n, v99_77_1]) () 1)) (c := z71) [99, 90] rfl rfl rfl rfl rfl at_stab (fun w X => ?_) ?_
 intro v99 h99
 exact ⟨(gT rfl), fun e0 => d_field rfl (h99 e0) underlying35 rfl sizeOf33 rfl rfl⟩
 refine f_gE (V := v99_77_1) (c := z71) [100, 90] rfl rfl rfl rfl rfl (fun w X => ?_) ?_
 intro v100 h100
 exact ⟨(gT rfl), fun e0 => (v_loadAt1 rfl (h100 e0) isAgg33 rfl).doesF⟩
 refine f_g [101, 90] rfl rfl rfl (gT rfl) rfl rfl (fun e0 w X => have H := H.ext X; v_len underlying33 (eg e0 rfl) (r99_77_1.at H.zin)) ?_
 obtain ⟨z78, e78, hS⟩ := bv hS
 refine f_g [96, 102, 90] rfl rfl rfl (gT rfl) rfl rfl (fun e0 w X => vB e78 (v_eq (eg e0 rfl) (eg e0 rfl))) ?_
 refine fB hS rfl (fun w X => v_and rfl rfl) fun z79 e79 hS => ?_
 refine fcps 1 rfl ?_
 refine fE [5, 7, 9, 11, 12, 72, 73] [_, _, _, _, _, _, _] H fun a w X H h => ?_
 refine rg fun K k => ?_
 refine cps 1 h rfl fun a h => ?_
 refine cz k ?_
 refine lb ?_
 obtain ⟨B81, eB81, hS⟩ := bv hS
 refine lpJ (fun mu_ a w => ∃ (Z : FZ) (s81 : Bool × Int), loopF B81 mu_ s81 = some res ∧ Fr 175 [(5, .pointer (some ⟨p1, 0, none⟩)), (7, v19_7_1), (9, v24_9_1), (11, .bool s81.1), (12, .int .i64 s58.2), (13, .int .i64 s81.2), (72, .int .i64 z56), (73, .int .i64 s58.2)] a ∧ HZ w0 Zi Z [.blk p1 (Cel [.int .i64 x2.s, .int .i64 x2.c, .int .i64 x2.r] 40)] w ∧ RdN Z v19_7_1 termEnc y6.1 ∧ RdN Z v24_9_1 termEnc y8.1) KK ⟨_, _, hS, h.to, H, r19_7_1, r24_9_1⟩ ?_
 rintro mu_ a w ⟨Z, s81, hS, h, H, r19_7_1, r24_9_1⟩
 obtain ⟨mu_, rfl, n81, en81, hS⟩ := lpX eB81 hS
 refine sq ?_
 refine rg fun K k => ?_
 refine cps 2 h rfl fun a h => ?_
 refine st_g h rfl rfl (gT rfl) rfl rfl (fun e0 => v_move rfl) fun a h => ?_
 refine st_g h rfl rfl (gT rfl) rfl rfl (fun e0 => v_move rfl) fun a h => ?_
 refine st_g h rfl rfl (gT rfl) rfl rfl (fun e0 => v_move rfl) fun a h => ?_
 obtain ⟨c84, hS⟩ := ck hS
 obtain ⟨z85, e85, hS⟩ := bv hS
 have q_86 := r19_7_1.gel ⟨_, termEnc_dflt⟩ s58.2
 rw [← e85] at q_86
 obtain ⟨css_86, cl_86, rc_86, hc_86, v110_86_1, hcs_86, r110_86_1⟩ := q_86
 refine st_idxGC h rfl (gT rfl) underlying25 sizeOf35 (fun e0 => (eg e0 rfl)) (fun e0 => (eg e0 rfl)) (rc_86.at H.zin) (fun e0 => (c84 e0).1) (fun e0 => hc_86 (c84 e0)) hcs_86 rfl fun a v110 A110 h => ?_
 refine st_fieldG h rfl (gT rfl) (fun e0 => (eg e0 rfl)) (fun e0 => (A110 e0)) underlying35 rfl sizeOf33 rfl rfl rfl fun a v111 A111 h => ?_
 refine st_g h rfl rfl (gT rfl) rfl rfl (fun e0 => v_loadAt1 (eg e0 rfl) (A111 e0) isAgg33 rfl) fun a h => ?_
 refine st_g h rfl rfl (gT rfl) rfl rfl (fun e0 => v_len underlying33 (eg e0 rfl) (r110_86_1.at H.zin)) fun a h => ?_
 obtain ⟨z87, e87, hS⟩ := bv hS
 refine st_g h rfl rfl (gT rfl) rfl rfl (fun e0 => vB e87 (v_lt (eg e0 rfl) (eg e0 rfl))) fun a h => ?_
 refine sB h hS rfl (v_and rfl rfl) fun z88 e88 hS a h => ?_
 refine cN k h [5, 7, 9, 11, 12, 13, 72, 73, 115] [_, _, _, _, _, _, _, _, _] fun h => ?_
 refine cI h hS rfl (fun ec89 hS => ?_) fun ec89 hS => ?_
 refine c_skip ?_
 refine sb ?_
 refine c_lflow h (by kernel_rfl) (by kernel_rfl) ?_
 refine fcps 2 rfl ?_
 obtain ⟨c91, hS⟩ := ck hS
 obtain ⟨z92, e92, hS⟩ := bv hS
 have q_93 := r19_7_1.gel ⟨_, termEnc_dflt⟩ s58.2
 rw [← e92] at q_93
 obtain ⟨css_93, cl_93, rc_93, hc_93, v120_93_1, hcs_93, r120_93_1⟩ := q_93
 refine f_op [118, 119] rfl rfl rfl rfl false (.rel (fun w' v' => At w' v' (fun _ : Unit => [.int .i64 z92.n, v120_93_1]) () 0)) at_stab (fun w X => ?_) ?_
 skip
 exact have H := H.ext X; d_idxC underlying25 sizeOf35 rfl rfl (rc_93.at H.zin) c91.1 (hc_93 c91) hcs_93
 refine f_op [120] rfl rfl rfl rfl false (.rel (fun w' v' => At w' v' (fun _ : Unit => [.int .i64 z92.n, v120_93_1]) () 1)) at_stab (fun w X => ?_) ?_
 intro v120 h120
 exact d_field rfl h120 underlying35 rfl sizeOf33 rfl rfl
 refine f_op [121] rfl rfl rfl rfl false (.eq (v120_93_1)) trivial (fun w X => ?_) ?_
 intro v121 h121
 exact (v_loadAt1 rfl h121 isAgg33 rfl).doesF
 refine fcps 1 rfl ?_
 obtain ⟨c94, hS⟩ := ck hS
 obtain ⟨z95, e95, hS⟩ := bv hS
 refine f_op [122, 123] rfl rfl rfl rfl false (.rel (fun w' v' => At w' v' cL z95 0)) at_stab (fun w X => ?_) ?_
 skip
 exact have H := H.ext X; d_idx underlying33 sizeOf40 rfl rfl (r120_93_1.at H.zin) (fun _ => rfl) z95 c94.1 (by rw [e95]; exact gel_some c94)
 refine f_op [124] rfl rfl rfl rfl false (.eq (.agg #[.int .i64 z95.s, .int .i64 z95.c, .int .i64 z95.r])) trivial (fun w X => ?_) ?_
 intro v124 h124
 exact (v_loadAtA [_, _, _] rfl h124 isAgg40 sizeOf40 rfl rfl).doesF
 refine fcps 2 rfl ?_
 obtain ⟨c96, hS⟩ := ck hS
 obtain ⟨z97, e97, hS⟩ := bv hS
 have q_98 := r24_9_1.gel ⟨_, termEnc_dflt⟩ s58.2
 rw [← e97] at q_98
 obtain ⟨css_98, cl_98, rc_98, hc_98, v128_98_1, hcs_98, r128_98_1⟩ := q_98
 refine f_op [126, 127] rfl rfl rfl rfl false (.rel (fun w' v' => At w' v' (fun _ : Unit => [.int .i64 z97.n, v128_98_1]) () 0)) at_stab (fun w X => ?_) ?_
 skip
 exact have H := H.ext X; d_idxC underlying25 sizeOf35 rfl rfl (rc_98.at H.zin) c96.1 (hc_98 c96) hcs_98
 refine f_op [128] rfl rfl rfl rfl false (.rel (fun w' v' => At w' v' (fun _ : Unit => [.int .i64 z97.n, v128_98_1]) () 1)) at_stab (fun w X => ?_) ?_
 intro v128 h128
 exact d_field rfl h128 underlying35 rfl sizeOf33 rfl rfl
 refine f_op [129] rfl rfl rfl rfl false (.eq (v128_98_1)) trivial (fun w X => ?_) ?_
 intro v129 h129
 exact (v_loadAt1 rfl h129 isAgg33 rfl).doesF
 refine fcps 1 rfl ?_
 obtain ⟨c99, hS⟩ := ck hS
 obtain ⟨z100, e100, hS⟩ := bv hS
 refine f_op [130, 131] rfl rfl rfl rfl false (.rel (fun w' v' => At w' v' cL z100 0)) at_stab (fun w X => ?_) ?_
 skip
 exact have H := H.ext X; d_idx underlying33 sizeOf40 rfl rfl (r128_98_1.at H.zin) (fun _ => rfl) z100 c99.1 (by rw [e100]; exact gel_some c99)
 refine f_op [132] rfl rfl rfl rfl false (.eq (.agg #[.int .i64 z100.s, .int .i64 z100.c, .int .i64 z100.r])) trivial (fun w X => ?_) ?_
 intro v132 h132
 exact (v_loadAtA [_, _, _] rfl h132 isAgg40 sizeOf40 rfl rfl).doesF
 refine fB hS rfl (fun w X => v_aggeq rfl rfl age40 (agq40 _ _ _ _ _ _)) fun z101 e101 hS => ?_
 refine fcps 1 rfl ?_
 refine fE [5, 7, 9, 11, 12, 13, 72, 73] [_, _, _, _, _, _, _, _] H fun a w X H h => ?_
 refine c_lregion ?_
 refine cps 1 h rfl fun a h => ?_
 refine sI h hS rfl (v_addw rfl rfl) fun z102 e102 hS a h => ?_
 refine cps 1 h rfl fun a h => ?_
 refine c_lnil ?_
 exact exL (ex2 ⟨lpN en81 hS, h.to, H, r19_7_1, r24_9_1⟩)
 refine c_exit ?_
 refine c_lregion ?_
 refine sI h hS rfl (v_addw rfl rfl) fun z103 e103 hS a h => ?_
 refine cps 1 h rfl fun a h => ?_
 refine c_lnil ?_
 exact exL (ex2 ⟨lpN en58 hS, h.to, H, r19_7_1, r24_9_1⟩)
 exact c_exit (ex2 ⟨hS, h.to, H, r19_7_1, r24_9_1⟩)
end Go.Proofs.YtlpfcclecmalhaaDoor
