/- Walks: the code computes what the partial functions say. -/
import Derived.Test.YtlpfcclecmalhaaDoorSpK
import Derived.Test.YtlpfcclecmalhaaDoorWkD
set_option linter.unusedSimpArgs false
set_option linter.unusedVariables false
set_option linter.unusedSectionVars false
namespace Go.Proofs.YtlpfcclecmalhaaDoor
open Go.Stp Go.RowKit Go.ValP Go.Sp _root_.Go.Proofs.Tryd
set_option maxRecDepth 100000
theorem reckonerlaw15_PolyNumbers_1_ok {x0 : C} {x1 : A4} {res : Int} {w0 : World} (hS : reckonerlaw15_PolyNumbers_1 x0 x1 = some res) {Z : FZ} (hZ : Z.inn w0) {b1 : Nat} (hz1 : Z b1 = some (Cel [.int .i64 x1.a, .int .i64 x1.b, .int .i64 x1.c, .int .i64 x1.d] 45)) : Calls Tryd.prog 23 [.agg #[.int .i64 x0.s, .int .i64 x0.c, .int .i64 x0.r], .pointer (some ⟨b1, 0, none⟩)].toArray w0 (Ret fun v w => v = .int .i64 res ∧ Ext w0 w) := by
 refine enS hZ func23 [0, 1] [_, _] fun Q a Zi eZi H h hr => ?_
 try rw [← eZi] at hr
 clear eZi
 unfold reckonerlaw15_PolyNumbers_1 at hS
 refine rg fun K k => ?_
 refine z_box h H rfl [_, _, _] rfl rfl fun a p1 w X H h => ?_
 have H : HZ w0 _ _ [_] _ := H
 refine cps 1 h rfl fun a h => ?_
 refine cz k ?_
 refine rg fun K k => ?_
 refine s1 h rfl (v_fieldAddr rfl underlying40 rfl sizeOf3 rfl rfl) fun a h => ?_
 refine s1 h rfl (l1 H 0 isAgg3) fun a h => ?_
 refine sI h hS rfl (v_bits_and rfl rfl) fun z2 e2 hS a h => ?_
 obtain ⟨c3, hS⟩ := ck hS
 refine s1 h rfl (v_idxArrP underlying45 sizeOf2 rfl rfl c3) fun a h => ?_
 refine sI h hS rfl (v_loadArrI rfl isAgg2 (H.zin _ _ hz1) (data := [x1.a, x1.b, x1.c, x1.d]) rfl c3) fun z4 e4 hS a h => ?_
 refine sI h hS rfl (v_bits_and rfl rfl) fun z5 e5 hS a h => ?_
 refine cps 1 h rfl fun a h => ?_
 refine cN k h [3] [_] fun h => ?_
 cases hS
 refine r1 hr h rfl rfl ⟨rfl, H.out⟩

theorem reckonerlaw15_PolyNumbers_2_ok {x0 : C} {x1 : A4} {res : Bool} {w0 : World} (hS : reckonerlaw15_PolyNumbers_2 x0 x1 = some res) {Z : FZ} (hZ : Z.inn w0) {b1 : Nat} (hz1 : Z b1 = some (Cel [.int .i64 x1.a, .int .i64 x1.b, .int .i64 x1.c, .int .i64 x1.d] 45)) : Calls Tryd.prog 25 [.agg #[.int .i64 x0.s, .int .i64 x0.c, .int .i64 x0.r], .pointer (some ⟨b1, 0, none⟩)].toArray w0 (Ret fun v w => v = .bool res ∧ Ext w0 w) := by
 refine enS hZ func25 [0, 1] [_, _] fun Q a Zi eZi H h hr => ?_
 try rw [← eZi] at hr
 clear eZi
 unfold reckonerlaw15_PolyNumbers_2 at hS
 refine rg fun K k => ?_
 refine z_box h H rfl [_, _, _] rfl rfl fun a p1 w X H h => ?_
 have H : HZ w0 _ _ [_] _ := H
 refine cps 1 h rfl fun a h => ?_
 refine cz k ?_
 refine rg fun K k => ?_
 refine s1 h rfl (v_fieldAddr rfl underlying40 rfl sizeOf3 rfl rfl) fun a h => ?_
 refine s1 h rfl (l1 H 0 isAgg3) fun a h => ?_
 refine sI h hS rfl (v_bits_and rfl rfl) fun z2 e2 hS a h => ?_
 obtain ⟨c3, hS⟩ := ck hS
 refine s1 h rfl (v_idxArrP underlying45 sizeOf2 rfl rfl c3) fun a h => ?_
 refine sI h hS rfl (v_loadArrI rfl isAgg2 (H.zin _ _ hz1) (data := [x1.a, x1.b, x1.c, x1.d]) rfl c3) fun z4 e4 hS a h => ?_
 refine sI h hS rfl (v_bits_and rfl rfl) fun z5 e5 hS a h => ?_
 refine sB h hS rfl (v_gt rfl rfl) fun z6 e6 hS a h => ?_
 refine cps 1 h rfl fun a h => ?_
 refine cN k h [3] [_] fun h => ?_
 cases hS
 refine r1 hr h rfl rfl ⟨rfl, H.out⟩

theorem reckonerlaw15_PolyNumbers_ok {x0 : List (Int)} {x1 : List (Int)} {x2 : A4} {res : Bool} {w0 : World} (hS : reckonerlaw15_PolyNumbers x0 x1 x2 = some res) {xv0 : Value} (rp0 : RdZ (hz w0) xv0 1 (eI .u8) x0) {xv1 : Value} (rp1 : RdZ (hz w0) xv1 1 (eI .u8) x1) (hG : GW w0) : Calls Tryd.prog 8 [xv0, xv1, .agg #[.int .i64 x2.a, .int .i64 x2.b, .int .i64 x2.c, .int .i64 x2.d]].toArray w0 (Ret fun v w => v = .bool res ∧ Ext w0 w) := by
 refine en func8 [0, 1, 2] [_, _, _] fun Q a Zi Z hzs H h hr => ?_
 have rp0 := rp0.sub hzs
 have rp1 := rp1.sub hzs
 clear hzs
 unfold reckonerlaw15_PolyNumbers at hS
 refine rg fun K k => ?_
 refine z_box h H rfl [_, _, _, _] rfl rfl fun a p1 w X H h => ?_
 have H : HZ w0 _ _ [_] _ := H
 refine cps 1 h rfl fun a h => ?_
 refine cz k ?_
 refine sq ?_
 refine rg fun K k => ?_
 refine sC h H hS rfl (fun y3 f3 => dC call10 (reckonerlaw15_fit_ok f3 (hG.ext H.out) :)) fun y3 hS w X H a h => ?_
 refine sB h hS rfl (v_not rfl) fun z4 e4 hS a h => ?_
 refine cz k ?_
 refine cI h hS rfl (fun ec5 hS => ?_) fun ec5 hS => ?_
 refine rg fun K k => ?_
 refine cps 1 h rfl fun a h => ?_
 refine cN k h [6] [_] fun h => ?_
 cases hS
 refine r1 hr h rfl rfl ⟨rfl, H.out⟩
 refine c_skip ?_
 refine cO h [0, 1, 5] [_, _, _] fun h => ?_
 refine rg fun K k => ?_
 refine cps 1 h rfl fun a h => ?_
 obtain ⟨y6, f6, hS⟩ := bo hS
 refine st2 h rfl rfl rfl (dC call11 (reckonerlaw15_Make_ok (x0 := x0) f6 H.zin rp0)) ?_
 rintro v_ w ⟨v31_7_1, rfl, r31_7_1, X⟩ a h
 obtain ⟨Z, hsub, hadd, H⟩ := H.adopt' X
 have rp0 := rp0.sub hsub
 have rp1 := rp1.sub hsub
 have r31_7_1 := r31_7_1.sub hadd
 refine cps 5 h rfl fun a h => ?_
 refine cN k h [1, 5, 7, 8] [_, _, _, _] fun h => ?_
 refine rg fun K k => ?_
 refine cps 1 h rfl fun a h => ?_
 obtain ⟨y8, f8, hS⟩ := bo hS
 refine st2 h rfl rfl rfl (dC call11 (reckonerlaw15_Make_ok (x0 := x1) f8 H.zin rp1)) ?_
 rintro v_ w ⟨v36_9_1, rfl, r36_9_1, X⟩ a h
 obtain ⟨Z, hsub, hadd, H⟩ := H.adopt' X
 have r31_7_1 := r31_7_1.sub hsub
 have rp0 := rp0.sub hsub
 have rp1 := rp1.sub hsub
 have r36_9_1 := r36_9_1.sub hadd
 refine cps 5 h rfl fun a h => ?_
 refine cN k h [5, 7, 8, 9, 10] [_, _, _, _, _] fun h => ?_
 refine sq ?_
 refine rg fun K k => ?_
 refine cps 1 h rfl fun a h => ?_
 refine sB h hS rfl (v_not rfl) fun z11 e11 hS a h => ?_
 refine cps 1 h rfl fun a h => ?_
 refine st_g h rfl rfl (gF rfl) rfl rfl (fun e0 => v_move rfl) fun a h => ?_
 obtain ⟨z12, e12, hS⟩ := bv hS
 refine st_g h rfl rfl (gF rfl) rfl rfl (fun e0 => vB e12 (v_not (eg e0 rfl))) fun a h => ?_
 refine sB h hS rfl (v_or rfl rfl) fun z13 e13 hS a h => ?_
 refine cN k h [5, 7, 9, 44] [_, _, _, _] fun h => ?_
 refine cI h hS rfl (fun ec14 hS => ?_) fun ec14 hS => ?_
 refine rg fun K k => ?_
 refine cps 1 h rfl fun a h => ?_
 refine cN k h [6] [_] fun h => ?_
 cases hS
 refine r1 hr h rfl rfl ⟨rfl, H.out⟩
 refine c_skip ?_
 refine rg fun K k => ?_
 obtain ⟨Z, hsub, H, hz0_15⟩ := H.freezeB 0 rfl rfl
 have r31_7_1 := r31_7_1.sub hsub
 have r36_9_1 := r36_9_1.sub hsub
 have rp0 := rp0.sub hsub
 have rp1 := rp1.sub hsub
 have H : HZ w0 _ _ [_] _ := H
 refine s1 h rfl (v_makeFunc [_] rfl) fun a h => ?_
 refine cps 1 h rfl fun a h => ?_
 refine cz k ?_
 refine rg fun K k => ?_
 refine cps 2 h rfl fun a h => ?_
 refine z_slice (enc := (Subtype.val (p := fun l : List Value => l.length = 1))) ([⟨[v31_7_1], rfl⟩, ⟨[v36_9_1], rfl⟩] : List (Cl 1)) h H underlying76 sizeOf25 zeroValue25 rfl (zl := [.slice none 0 0, .slice none 0 0]) (by kernel_rfl) (plA_get 2 1) [_, _] [_, _] rfl (by obtain ⟨_, _, _, e_⟩ := (r31_7_1).form; subst e_; obtain ⟨_, _, _, e_⟩ := (r36_9_1).form; subst e_; rfl) rfl rfl rfl fun a v49_16 Z w hsub X H r49_16 h => ?_
 have r31_7_1 := r31_7_1.sub hsub
 have r36_9_1 := r36_9_1.sub hsub
 have rp0 := rp0.sub hsub
 have rp1 := rp1.sub hsub
 have hz0_15 := hsub _ _ hz0_15
 have r49_16 : RdN Z v49_16 polyEnc [y6.1, y8.1] := ⟨_, r49_16, ⟨⟨_, rfl, r31_7_1⟩, ⟨_, rfl, r36_9_1⟩, trivial⟩⟩
 obtain ⟨y17, f17, hS⟩ := bo hS
 refine st2 h rfl rfl rfl (dC call12 (poly_Add_ok (x0 := [y6.1, y8.1]) f17 H.zin r49_16)) ?_
 rintro v_ w ⟨v50_18_1, rfl, r50_18_1, X⟩ a h
 obtain ⟨Z, hsub, hadd, H⟩ := H.adopt' X
 have r31_7_1 := r31_7_1.sub hsub
 have r36_9_1 := r36_9_1.sub hsub
 have r49_16 := r49_16.sub hsub
 have rp0 := rp0.sub hsub
 have rp1 := rp1.sub hsub
 have hz0_15 := hsub _ _ hz0_15
 have r50_18_1 := r50_18_1.sub hadd
 refine cps 5 h rfl fun a h => ?_
 refine cN k h [5, 7, 9, 11, 12, 13] [_, _, _, _, _, _] fun h => ?_
 refine rg fun K k => ?_
 refine cps 2 h rfl fun a h => ?_
 obtain ⟨y19, f19, hS⟩ := bo hS
 refine st2 h rfl rfl rfl (dC call13 (poly_Mul_ok (x0 := y6.1) (x1 := y8.1) f19 H.zin r31_7_1 r36_9_1)) ?_
 rintro v_ w ⟨v56_20_1, rfl, r56_20_1, X⟩ a h
 obtain ⟨Z, hsub, hadd, H⟩ := H.adopt' X
 have r31_7_1 := r31_7_1.sub hsub
 have r36_9_1 := r36_9_1.sub hsub
 have r50_18_1 := r50_18_1.sub hsub
 have rp0 := rp0.sub hsub
 have rp1 := rp1.sub hsub
 have hz0_15 := hsub _ _ hz0_15
 have r56_20_1 := r56_20_1.sub hadd
 refine cps 5 h rfl fun a h => ?_
 refine cN k h [5, 7, 9, 11, 12, 13, 14, 15] [_, _, _, _, _, _, _, _] fun h => ?_
 refine rg fun K k => ?_
 refine cps 2 h rfl fun a h => ?_
 refine sC h H hS rfl (fun y22 f22 => dC call22 (poly_Num_ok f22 H.zin r31_7_1 ⟨call23, fun c21 r_ w_ hi_ hg_ => reckonerlaw15_PolyNumbers_1_ok hg_ hi_ hz0_15⟩ :)) fun y22 hS w X H a h => ?_
 refine cps 5 h rfl fun a h => ?_
 refine cN k h [5, 7, 9, 11, 12, 13, 14, 15, 16, 17] [_, _, _, _, _, _, _, _, _, _] fun h => ?_
 refine rg fun K k => ?_
 refine cps 2 h rfl fun a h => ?_
 refine sC h H hS rfl (fun y24 f24 => dC call22 (poly_Num_ok f24 H.zin r36_9_1 ⟨call23, fun c23 r_ w_ hi_ hg_ => reckonerlaw15_PolyNumbers_1_ok hg_ hi_ hz0_15⟩ :)) fun y24 hS w X H a h => ?_
 refine cps 5 h rfl fun a h => ?_
 refine cN k h [5, 7, 11, 12, 13, 14, 15, 16, 17, 18, 19] [_, _, _, _, _, _, _, _, _, _, _] fun h => ?_
 refine sq ?_
 refine rg fun K k => ?_
 refine cps 1 h rfl fun a h => ?_
 refine sB h hS rfl (v_not rfl) fun z26 e26 hS a h => ?_
 refine cps 1 h rfl fun a h => ?_
 refine st_g h rfl rfl (gF rfl) rfl rfl (fun e0 => v_move rfl) fun a h => ?_
 obtain ⟨z27, e27, hS⟩ := bv hS
 refine st_g h rfl rfl (gF rfl) rfl rfl (fun e0 => vB e27 (v_not (eg e0 rfl))) fun a h => ?_
 refine sB h hS rfl (v_or rfl rfl) fun z28 e28 hS a h => ?_
 refine cN k h [5, 7, 11, 12, 13, 14, 15, 16, 18, 76] [_, _, _, _, _, _, _, _, _, _] fun h => ?_
 refine cI h hS rfl (fun ec29 hS => ?_) fun ec29 hS => ?_
 refine rg fun K k => ?_
 refine cps 1 h rfl fun a h => ?_
 refine cN k h [6] [_] fun h => ?_
 cases hS
 refine r1 hr h rfl rfl ⟨rfl, H.out⟩
 refine c_skip ?_
 obtain ⟨J31, eJ31, hS⟩ := bv hS
 refine sqJ (fun a w => ∃ (Z : FZ) (s31 : Unit), J31 s31 = some res ∧ Fr 122 [(5, .pointer (some ⟨p1, 0, none⟩)), (7, v31_7_1), (11, .func (.func 23) #[] #[.pointer (some ⟨p1, 0, none⟩)]), (14, v56_20_1), (15, .bool y19.2), (16, .int .i64 y22.1), (18, .int .i64 y24.1)] a ∧ HZ w0 Zi Z [.row 0 1 (.slice none 0 0) 0 []] w ∧ RdN Z v31_7_1 termEnc y6.1 ∧ RdN Z v56_20_1 termEnc y19.1 ∧ Z p1 = some (Cel [.int .i64 x2.a, .int .i64 x2.b, .int .i64 x2.c, .int .i64 x2.d] 45)) ?_ ?_
 rintro a w ⟨Z, s31, hS, h, H, r31_7_1, r56_20_1, hz0_15⟩
 subst eJ31
 obtain ⟨J33, eJ33, hS⟩ := bv hS
 refine sqJ (fun a w => ∃ (Z : FZ) (s33 : Unit), J33 s33 = some res ∧ Fr 122 [(5, .pointer (some ⟨p1, 0, none⟩)), (7, v31_7_1), (16, .int .i64 y22.1)] a ∧ HZ w0 Zi Z [.row 0 1 (.slice none 0 0) 0 []] w ∧ RdN Z v31_7_1 termEnc y6.1 ∧ Z p1 = some (Cel [.int .i64 x2.a, .int .i64 x2.b, .int .i64 x2.c, .int .i64 x2.d] 45)) ?_ ?_
 rintro a w ⟨Z, s33, hS, h, H, r31_7_1, hz0_15⟩
 subst eJ33
 refine rg fun K k => ?_
 refine s1 h rfl (v_makeFunc [_] rfl) fun a h => ?_
 refine cps 1 h rfl fun a h => ?_
 refine cz k ?_
 refine rg fun K k => ?_
 refine cps 2 h rfl fun a h => ?_
 refine sC h H hS rfl (fun y35 f35 => dC call18 (poly_Holds_ok f35 H.zin r31_7_1 ⟨call25, fun c34 r_ w_ hi_ hg_ => reckonerlaw15_PolyNumbers_2_ok hg_ hi_ hz0_15⟩ :)) fun y35 hS w X H a h => ?_
 refine cps 1 h rfl fun a h => ?_
 refine sB h hS rfl (v_gt rfl rfl) fun z36 e36 hS a h => ?_
 refine sB h hS rfl (v_beq underlying4 rfl rfl) fun z37 e37 hS a h => ?_
 refine cps 1 h rfl fun a h => ?_
 refine cN k h [6] [_] fun h => ?_
 cases hS
 refine r1 hr h rfl rfl ⟨rfl, H.out⟩
 refine rg fun K k => ?_
 refine cps 1 h rfl fun a h => ?_
 refine cz k ?_
 refine cI h hS rfl (fun ec38 hS => ?_) fun ec38 hS => ?_
 refine rg fun K k => ?_
 refine cps 2 h rfl fun a h => ?_
 refine sC h H hS rfl (fun y39 f39 => dC call24 (num_Mul_ok f39 :)) fun y39 hS w X H a h => ?_
 refine cps 5 h rfl fun a h => ?_
 refine cN k h [5, 7, 11, 14, 16, 22, 23] [_, _, _, _, _, _, _] fun h => ?_
 refine rg fun K k => ?_
 refine cps 2 h rfl fun a h => ?_
 refine sC h H hS rfl (fun y41 f41 => dC call22 (poly_Num_ok f41 H.zin r56_20_1 ⟨call23, fun c40 r_ w_ hi_ hg_ => reckonerlaw15_PolyNumbers_1_ok hg_ hi_ hz0_15⟩ :)) fun y41 hS w X H a h => ?_
 refine cps 5 h rfl fun a h => ?_
 refine cN k h [5, 7, 16, 22, 23, 24, 25] [_, _, _, _, _, _, _] fun h => ?_
 refine rg fun K k => ?_
 refine cps 2 h rfl fun a h => ?_
 refine st_g h rfl rfl (gT rfl) rfl rfl (fun e0 => v_move rfl) fun a h => ?_
 refine sB h hS rfl (v_and rfl rfl) fun z42 e42 hS a h => ?_
 refine cps 1 h rfl fun a h => ?_
 refine st_g h rfl rfl (gT rfl) rfl rfl (fun e0 => v_move rfl) fun a h => ?_
 refine st_g h rfl rfl (gT rfl) rfl rfl (fun e0 => v_move rfl) fun a h => ?_
 obtain ⟨z43, e43, hS⟩ := bv hS
 refine st_g h rfl rfl (gT rfl) rfl rfl (fun e0 => vB e43 (v_ne (eg e0 rfl) (eg e0 rfl))) fun a h => ?_
 refine sB h hS rfl (v_and rfl rfl) fun z44 e44 hS a h => ?_
 refine cN k h [5, 7, 16, 114] [_, _, _, _] fun h => ?_
 refine cI h hS rfl (fun ec45 hS => ?_) fun ec45 hS => ?_
 refine rg fun K k => ?_
 refine cps 1 h rfl fun a h => ?_
 refine cN k h [6] [_] fun h => ?_
 cases hS
 refine r1 hr h rfl rfl ⟨rfl, H.out⟩
 exact c_skip (exU1 ⟨hS, h.to, H, r31_7_1, hz0_15⟩)
 exact c_skip (exU1 ⟨hS, h.to, H, r31_7_1, hz0_15⟩)
 refine rg fun K k => ?_
 refine cps 1 h rfl fun a h => ?_
 refine cz k ?_
 refine cI h hS rfl (fun ec46 hS => ?_) fun ec46 hS => ?_
 refine rg fun K k => ?_
 refine cps 2 h rfl fun a h => ?_
 refine sC h H hS rfl (fun y48 f48 => dC call22 (poly_Num_ok f48 H.zin r50_18_1 ⟨call23, fun c47 r_ w_ hi_ hg_ => reckonerlaw15_PolyNumbers_1_ok hg_ hi_ hz0_15⟩ :)) fun y48 hS w X H a h => ?_
 refine cps 5 h rfl fun a h => ?_
 refine cN k h [5, 7, 11, 14, 15, 16, 18, 20, 21] [_, _, _, _, _, _, _, _, _] fun h => ?_
 refine rg fun K k => ?_
 refine cps 1 h rfl fun a h => ?_
 refine sB h hS rfl (v_not rfl) fun z49 e49 hS a h => ?_
 refine cps 1 h rfl fun a h => ?_
 refine st_g h rfl rfl (gF rfl) rfl rfl (fun e0 => v_move rfl) fun a h => ?_
 refine st_g h rfl rfl (gF rfl) rfl rfl (fun e0 => v_move rfl) fun a h => ?_
 refine st_g h rfl rfl (gF rfl) rfl rfl (fun e0 => v_move rfl) fun a h => ?_
 obtain ⟨z50, e50, hS⟩ := bv hS
 refine st_g h rfl rfl (gF rfl) rfl rfl (fun e0 => vI e50 (v_addw (eg e0 rfl) (eg e0 rfl))) fun a h => ?_
 obtain ⟨z51, e51, hS⟩ := bv hS
 refine st_g h rfl rfl (gF rfl) rfl rfl (fun e0 => vB e51 (v_ne (eg e0 rfl) (eg e0 rfl))) fun a h => ?_
 refine sB h hS rfl (v_or rfl rfl) fun z52 e52 hS a h => ?_
 refine cN k h [5, 7, 11, 14, 15, 16, 18, 92] [_, _, _, _, _, _, _, _] fun h => ?_
 refine cI h hS rfl (fun ec53 hS => ?_) fun ec53 hS => ?_
 refine rg fun K k => ?_
 refine cps 1 h rfl fun a h => ?_
 refine cN k h [6] [_] fun h => ?_
 cases hS
 refine r1 hr h rfl rfl ⟨rfl, H.out⟩
 exact c_skip (exU1 ⟨hS, h.to, H, r31_7_1, r56_20_1, hz0_15⟩)
 exact c_skip (exU1 ⟨hS, h.to, H, r31_7_1, r56_20_1, hz0_15⟩)
end Go.Proofs.YtlpfcclecmalhaaDoor
