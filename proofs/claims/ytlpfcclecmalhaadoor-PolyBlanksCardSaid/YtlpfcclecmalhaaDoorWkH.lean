/- Walks: the code computes what the partial functions say. -/
import Derived.Test.YtlpfcclecmalhaaDoorSpH
import Derived.Test.YtlpfcclecmalhaaDoorWkD
set_option linter.unusedSimpArgs false
set_option linter.unusedVariables false
set_option linter.unusedSectionVars false
namespace Go.Proofs.YtlpfcclecmalhaaDoor
open Go.Stp Go.RowKit Go.ValP Go.Sp _root_.Go.Proofs.Tryd
set_option maxRecDepth 100000
theorem reckonerlaw15_PolyBlanks_1_ok {x0 : C} {x1 : A4} {res : Int} {w0 : World} (hS : reckonerlaw15_PolyBlanks_1 x0 x1 = some res) {Z : FZ} (hZ : Z.inn w0) {b1 : Nat} (hz1 : Z b1 = some (Cel [.int .i64 x1.a, .int .i64 x1.b, .int .i64 x1.c, .int .i64 x1.d] 45)) : Calls Tryd.prog 20 [.agg #[.int .i64 x0.s, .int .i64 x0.c, .int .i64 x0.r], .pointer (some ⟨b1, 0, none⟩)].toArray w0 (Ret fun v w => v = .int .i64 res ∧ Ext w0 w) := by
 refine enS hZ func20 [0, 1] [_, _] fun Q a Zi eZi H h hr => ?_
 try rw [← eZi] at hr
 clear eZi
 unfold reckonerlaw15_PolyBlanks_1 at hS
 refine rg fun K k => ?_
 refine z_box h H rfl [_, _, _] rfl rfl fun a p1 w X H h => ?_
 have H : HZ w0 _ _ [_] _ := H
 refine cps 1 h rfl fun a h => ?_
 refine cz k ?_
 refine rg fun K k => ?_
 refine s1 h rfl (v_fieldAddr rfl underlying40 rfl sizeOf3 rfl rfl) fun a h => ?_
 refine s1 h rfl (l1 H 0 isAgg3) fun a h => ?_
 refine sI h hS rfl (v_bits_and rfl rfl) fun z2 e2 hS a h => ?_
 obtain ⟨c3, hS⟩ := ck hS
 refine s1 h rfl (v_idxArrP underlying45 sizeOf2 rfl rfl c3) fun a h => ?_
 refine sI h hS rfl (v_loadArrI rfl isAgg2 (H.zin _ _ hz1) (data := [x1.a, x1.b, x1.c, x1.d]) rfl c3) fun z4 e4 hS a h => ?_
 refine sI h hS rfl (v_bits_and rfl rfl) fun z5 e5 hS a h => ?_
 refine cps 1 h rfl fun a h => ?_
 refine cN k h [3] [_] fun h => ?_
 cases hS
 refine r1 hr h rfl rfl ⟨rfl, H.out⟩

theorem reckonerlaw15_PolyBlanks_2_ok {x0 : C} {x1 : C} {x2 : C → Option (Int)} {res : Int} {w0 : World} (hS : reckonerlaw15_PolyBlanks_2 x0 x1 x2 = some res) {Z : FZ} (hZ : Z.inn w0) {b1 : Nat} (hz1 : Z b1 = some (Cel [.int .i64 x1.s, .int .i64 x1.c, .int .i64 x1.r] 40)) {fi2 : FuncId} {cp2 : Array Value} (hf2 : FnR Tryd.prog fi2 cp2 Z (fun c : C => [.agg #[.int .i64 c.s, .int .i64 c.c, .int .i64 c.r]]) (fun r : Int => .int .i64 r) x2) {b2 : Nat} (hz2 : Z b2 = some (Cel [.func (.func fi2) #[] cp2] 46)) : Calls Tryd.prog 21 [.agg #[.int .i64 x0.s, .int .i64 x0.c, .int .i64 x0.r], .pointer (some ⟨b1, 0, none⟩), .pointer (some ⟨b2, 0, none⟩)].toArray w0 (Ret fun v w => v = .int .i64 res ∧ Ext w0 w) := by
 refine enS hZ func21 [0, 1, 2] [_, _, _] fun Q a Zi eZi H h hr => ?_
 try rw [← eZi] at hr
 rw [← eZi] at hf2
 clear eZi
 unfold reckonerlaw15_PolyBlanks_2 at hS
 refine rg fun K k => ?_
 refine z_box h H rfl [_, _, _] rfl rfl fun a p1 w X H h => ?_
 have H : HZ w0 _ _ [_] _ := H
 refine cps 1 h rfl fun a h => ?_
 refine cz k ?_
 refine sq ?_
 refine rg fun K k => ?_
 refine s1 h rfl (lA H 0 isAgg40 sizeOf40 [_, _, _]) fun a h => ?_
 refine s1 h rfl (v_loadA [_, _, _] rfl isAgg40 sizeOf40 (H.zin _ _ hz1) rfl rfl) fun a h => ?_
 refine sB h hS rfl (v_aggeq rfl rfl age40 (agq40 _ _ _ _ _ _)) fun z3 e3 hS a h => ?_
 refine cN k h [2, 3, 7] [_, _, _] fun h => ?_
 refine cI h hS rfl (fun ec4 hS => ?_) fun ec4 hS => ?_
 refine rg fun K k => ?_
 refine cps 1 h rfl fun a h => ?_
 refine cz k ?_
 cases hS
 refine r1 hr h rfl rfl ⟨rfl, H.out⟩
 refine c_skip ?_
 refine rg fun K k => ?_
 refine s1 h rfl (v_load1 rfl isAgg46 (H.zin _ _ hz2) rfl) fun a h => ?_
 refine s1 h rfl (lA H 0 isAgg40 sizeOf40 [_, _, _]) fun a h => ?_
 refine sC h H hS rfl (fun y5 f5 => d_fn hf2 H.zini rfl (c := x0) rfl f5) fun y5 hS w X H a h => ?_
 refine cps 1 h rfl fun a h => ?_
 refine cN k h [4] [_] fun h => ?_
 cases hS
 refine r1 hr h rfl rfl ⟨rfl, H.out⟩

theorem reckonerlaw15_PolyBlanks_ok {x0 : List (Int)} {x1 : A4} {x2 : Int} {res : Bool} {w0 : World} (hS : reckonerlaw15_PolyBlanks x0 x1 x2 = some res) {xv0 : Value} (rp0 : RdZ (hz w0) xv0 1 (eI .u8) x0) (hG : GW w0) : Calls Tryd.prog 7 [xv0, .agg #[.int .i64 x1.a, .int .i64 x1.b, .int .i64 x1.c, .int .i64 x1.d], .int .i64 x2].toArray w0 (Ret fun v w => v = .bool res ∧ Ext w0 w) := by
 refine en func7 [0, 1, 2] [_, _, _] fun Q a Zi Z hzs H h hr => ?_
 have rp0 := rp0.sub hzs
 clear hzs
 unfold reckonerlaw15_PolyBlanks at hS
 refine rg fun K k => ?_
 refine z_box h H rfl [_, _, _, _] rfl rfl fun a p1 w X H h => ?_
 have H : HZ w0 _ _ [_] _ := H
 refine cps 1 h rfl fun a h => ?_
 refine cz k ?_
 refine sq ?_
 refine rg fun K k => ?_
 refine sC h H hS rfl (fun y3 f3 => dC call10 (reckonerlaw15_fit_ok f3 (hG.ext H.out) :)) fun y3 hS w X H a h => ?_
 refine sB h hS rfl (v_not rfl) fun z4 e4 hS a h => ?_
 refine cz k ?_
 refine cI h hS rfl (fun ec5 hS => ?_) fun ec5 hS => ?_
 refine rg fun K k => ?_
 refine cps 1 h rfl fun a h => ?_
 refine cN k h [6] [_] fun h => ?_
 cases hS
 refine r1 hr h rfl rfl ⟨rfl, H.out⟩
 refine c_skip ?_
 refine cO h [0, 2, 4] [_, _, _] fun h => ?_
 refine rg fun K k => ?_
 refine cps 1 h rfl fun a h => ?_
 obtain ⟨y6, f6, hS⟩ := bo hS
 refine st2 h rfl rfl rfl (dC call11 (reckonerlaw15_Make_ok (x0 := x0) f6 H.zin rp0)) ?_
 rintro v_ w ⟨v26_7_1, rfl, r26_7_1, X⟩ a h
 obtain ⟨Z, hsub, hadd, H⟩ := H.adopt' X
 have rp0 := rp0.sub hsub
 have r26_7_1 := r26_7_1.sub hadd
 refine cps 5 h rfl fun a h => ?_
 refine cN k h [2, 4, 7, 8] [_, _, _, _] fun h => ?_
 refine sq ?_
 refine rg fun K k => ?_
 refine cps 1 h rfl fun a h => ?_
 refine sB h hS rfl (v_not rfl) fun z9 e9 hS a h => ?_
 refine cz k ?_
 refine cI h hS rfl (fun ec10 hS => ?_) fun ec10 hS => ?_
 refine rg fun K k => ?_
 refine cps 1 h rfl fun a h => ?_
 refine cN k h [6] [_] fun h => ?_
 cases hS
 refine r1 hr h rfl rfl ⟨rfl, H.out⟩
 refine c_skip ?_
 refine rg fun K k => ?_
 refine cps 1 h rfl fun a h => ?_
 refine sI h hS rfl (v_bits_and rfl rfl) fun z11 e11 hS a h => ?_
 refine s1 h rfl (v_build bld40 [_] [_, _, _] rfl rfl) fun a h => ?_
 refine zA h H zeroValue40 [_, _, _] (fun x => [_, x]) fun a p12 w X H h => ?_
 refine zS h H 1 sizeOf40 [_, _, _] [_, _, _] [_, _] fun w H => ?_
 refine cN k h [4, 7, 9] [_, _, _] fun h => ?_
 refine rg fun K k => ?_
 obtain ⟨Z, hsub, H, hz0_13⟩ := H.freezeB 0 rfl rfl
 have r26_7_1 := r26_7_1.sub hsub
 have rp0 := rp0.sub hsub
 have H : HZ w0 _ _ [_, _] _ := H
 refine s1 h rfl (v_makeFunc [_] rfl) fun a h => ?_
 refine zA h H zeroValue46 [_] (fun x => [_, _, x]) fun a p14 w X H h => ?_
 refine zS h H 2 sizeOf46 [_] [_] [_, _, _] fun w H => ?_
 refine cz k ?_
 refine rg fun K k => ?_
 obtain ⟨Z, hsub, H, hz1_15⟩ := H.freezeB 1 rfl rfl
 have r26_7_1 := r26_7_1.sub hsub
 have rp0 := rp0.sub hsub
 have hz0_13 := hsub _ _ hz0_13
 have H : HZ w0 _ _ [_, _, _] _ := H
 obtain ⟨Z, hsub, H, hz2_16⟩ := H.freezeB 2 rfl rfl
 have r26_7_1 := r26_7_1.sub hsub
 have rp0 := rp0.sub hsub
 have hz0_13 := hsub _ _ hz0_13
 have hz1_15 := hsub _ _ hz1_15
 have H : HZ w0 _ _ [_, _, _] _ := H
 refine s1 h rfl (v_makeFunc [_, _] rfl) fun a h => ?_
 refine cps 1 h rfl fun a h => ?_
 refine cz k ?_
 refine rg fun K k => ?_
 refine cps 1 h rfl fun a h => ?_
 refine cz k ?_
 have H := H.nilRow 35 2 rfl
 have H : HZ w0 _ _ [_, _, _, _] _ := H
 have el3 : EL termEnc Z ([] : List (Cl 2)) ([] : List (T)) := trivial
 obtain ⟨J18, eJ18, hS⟩ := bv hS
 refine sqJ (fun a w => ∃ (Z : FZ) (s18 : (List (T))) (sv19 : Value) (cs19 : List (Cl 2)), J18 s18 = some res ∧ Fr 84 [(7, v26_7_1), (10, .pointer (some ⟨p14, 0, none⟩)), (11, .func (.func 21) #[] #[.pointer (some ⟨p12, 0, none⟩), .pointer (some ⟨p14, 0, none⟩)]), (12, sv19)] a ∧ HZ w0 Zi Z [.row 0 1 (.slice none 0 0) 0 [], .row 0 1 (.slice none 0 0) 0 [], .row 0 1 (.slice none 0 0) 0 [], .row 35 2 sv19 cs19.length (cs19.flatMap Subtype.val)] w ∧ EL termEnc Z cs19 s18 ∧ RdN Z v26_7_1 termEnc y6.1 ∧ Z p1 = some (Cel [.int .i64 x1.a, .int .i64 x1.b, .int .i64 x1.c, .int .i64 x1.d] 45) ∧ Z p12 = some (Cel [.int .i64 0, .int .i64 z11, .int .i64 0] 40) ∧ Z p14 = some (Cel [.func (.func 20) #[] #[.pointer (some ⟨p1, 0, none⟩)]] 46)) ?_ ?_
 rintro a w ⟨Z, s18, sv19, cs19, hS, h, H, el3, r26_7_1, hz0_13, hz1_15, hz2_16⟩
 subst eJ18
 obtain ⟨Z, hsub, H, rz3_20⟩ := H.freezeRowN (E := termEnc) 3 rfl el3
 have r26_7_1 := r26_7_1.sub hsub
 have hz0_13 := hsub _ _ hz0_13
 have hz1_15 := hsub _ _ hz1_15
 have hz2_16 := hsub _ _ hz2_16
 have H : HZ w0 _ _ [_, _, _, _] _ := H
 refine rg fun K k => ?_
 refine cps 2 h rfl fun a h => ?_
 refine sC h H hS rfl (fun y23 f23 => dC call22 (poly_Num_ok f23 H.zin r26_7_1 ⟨call21, fun c21 r_ w_ hi_ hg_ => reckonerlaw15_PolyBlanks_2_ok hg_ hi_ hz1_15 ⟨call20, fun c22 r_ w_ hi_ hg_ => reckonerlaw15_PolyBlanks_1_ok hg_ hi_ hz0_13⟩ hz2_16⟩ :)) fun y23 hS w X H a h => ?_
 refine cps 5 h rfl fun a h => ?_
 refine cN k h [10, 12, 18, 19] [_, _, _, _] fun h => ?_
 refine rg fun K k => ?_
 refine cps 1 h rfl fun a h => ?_
 refine s1 h rfl (v_load1 rfl isAgg46 (H.zin _ _ hz2_16) rfl) fun a h => ?_
 refine sC h H hS rfl (fun y25 f25 => dC call22 (poly_Num_ok f25 H.zin rz3_20 ⟨call20, fun c24 r_ w_ hi_ hg_ => reckonerlaw15_PolyBlanks_1_ok hg_ hi_ hz0_13⟩ :)) fun y25 hS w X H a h => ?_
 refine cps 5 h rfl fun a h => ?_
 refine cN k h [18, 19, 20, 21] [_, _, _, _] fun h => ?_
 refine rg fun K k => ?_
 refine cps 2 h rfl fun a h => ?_
 refine st_g h rfl rfl (gT rfl) rfl rfl (fun e0 => v_move rfl) fun a h => ?_
 refine sB h hS rfl (v_and rfl rfl) fun z26 e26 hS a h => ?_
 refine cps 1 h rfl fun a h => ?_
 refine st_g h rfl rfl (gT rfl) rfl rfl (fun e0 => v_move rfl) fun a h => ?_
 refine st_g h rfl rfl (gT rfl) rfl rfl (fun e0 => v_move rfl) fun a h => ?_
 obtain ⟨z27, e27, hS⟩ := bv hS
 refine st_g h rfl rfl (gT rfl) rfl rfl (fun e0 => vB e27 (v_eq (eg e0 rfl) (eg e0 rfl))) fun a h => ?_
 refine sB h hS rfl (v_and rfl rfl) fun z28 e28 hS a h => ?_
 refine cps 1 h rfl fun a h => ?_
 refine cN k h [6] [_] fun h => ?_
 cases hS
 refine r1 hr h rfl rfl ⟨rfl, H.out⟩
 refine rg fun K k => ?_
 refine cps 1 h rfl fun a h => ?_
 refine s1 h rfl (v_lenN underlying25 rfl r26_7_1 H.zin) fun a h => ?_
 refine cps 1 h rfl fun a h => ?_
 refine cz k ?_
 refine lb ?_
 obtain ⟨B30, eB30, hS⟩ := bv hS
 refine lpJ (fun mu_ a w => ∃ (Z : FZ) (s30 : Int × (List (T))) (sv32 : Value) (cs32 : List (Cl 2)), loopF B30 mu_ s30 = some res ∧ Fr 84 [(7, v26_7_1), (9, .pointer (some ⟨p12, 0, none⟩)), (10, .pointer (some ⟨p14, 0, none⟩)), (11, .func (.func 21) #[] #[.pointer (some ⟨p12, 0, none⟩), .pointer (some ⟨p14, 0, none⟩)]), (12, sv32), (36, v26_7_1), (37, .int .i64 (y6.1.length : Int)), (38, .int .i64 s30.1)] a ∧ HZ w0 Zi Z [.row 0 1 (.slice none 0 0) 0 [], .row 0 1 (.slice none 0 0) 0 [], .row 0 1 (.slice none 0 0) 0 [], .row 35 2 sv32 cs32.length (cs32.flatMap Subtype.val)] w ∧ EL termEnc Z cs32 s30.2 ∧ RdN Z v26_7_1 termEnc y6.1 ∧ Z p1 = some (Cel [.int .i64 x1.a, .int .i64 x1.b, .int .i64 x1.c, .int .i64 x1.d] 45) ∧ Z p12 = some (Cel [.int .i64 0, .int .i64 z11, .int .i64 0] 40) ∧ Z p14 = some (Cel [.func (.func 20) #[] #[.pointer (some ⟨p1, 0, none⟩)]] 46)) KK ⟨_, _, _, _, hS, h.to, H, el3, r26_7_1, hz0_13, hz1_15, hz2_16⟩ ?_
 rintro mu_ a w ⟨Z, s30, sv32, cs32, hS, h, H, el3, r26_7_1, hz0_13, hz1_15, hz2_16⟩
 obtain ⟨mu_, rfl, n30, en30, hS⟩ := lpX eB30 hS
 refine rg fun K k => ?_
 refine sB h hS rfl (v_lt rfl rfl) fun z33 e33 hS a h => ?_
 refine cz k ?_
 refine sq ?_
 refine cI h hS rfl (fun ec35 hS => ?_) fun ec35 hS => ?_
 refine c_skip ?_
 refine sb ?_
 refine rg fun K k => ?_
 obtain ⟨c37, hS⟩ := ck hS
 obtain ⟨z38, e38, hS⟩ := bv hS
 have q_39 := r26_7_1.gel ⟨_, termEnc_dflt⟩ s30.1
 rw [← e38] at q_39
 obtain ⟨css_39, cl_39, rc_39, hc_39, v40_39_1, hcs_39, r40_39_1⟩ := q_39
 refine st_idxC h underlying25 sizeOf35 rfl rfl (rc_39.at H.zin) c37.1 (hc_39 c37) hcs_39 rfl fun a v40 A40 h => ?_
 refine s1 h rfl (v_loadAtA [_, _] rfl A40 isAgg35 sizeOf35 rfl rfl) fun a h => ?_
 refine zA h H zeroValue35 [_, _] (fun x => [_, _, _, _, x]) fun a p40 w X H h => ?_
 have A40 := At.ext A40 X
 refine z_store h H 4 rfl rfl rfl sizeOf35 [_, _] rfl rfl (by obtain ⟨_, _, _, e_⟩ := (r40_39_1).form; subst e_; rfl) (by simp) [_, _] rfl (hl' := [_, _, _, _, _]) rfl fun w H => ?_
 refine cz k ?_
 refine rg fun K k => ?_
 refine cps 1 h rfl fun a h => ?_
 refine cz k ?_
 obtain ⟨J42, eJ42, hS⟩ := bv hS
 refine sqJ (fun a w => ∃ (Z : FZ) (s42 : Bool), J42 s42 = some res ∧ Fr 84 [(7, v26_7_1), (9, .pointer (some ⟨p12, 0, none⟩)), (10, .pointer (some ⟨p14, 0, none⟩)), (11, .func (.func 21) #[] #[.pointer (some ⟨p12, 0, none⟩), .pointer (some ⟨p14, 0, none⟩)]), (12, sv32), (14, .pointer (some ⟨p40, 0, none⟩)), (15, .bool s42), (36, v26_7_1), (37, .int .i64 (y6.1.length : Int)), (38, .int .i64 s30.1)] a ∧ HZ w0 Zi Z [.row 0 1 (.slice none 0 0) 0 [], .row 0 1 (.slice none 0 0) 0 [], .row 0 1 (.slice none 0 0) 0 [], .row 35 2 sv32 cs32.length (cs32.flatMap Subtype.val), .blk p40 (Cel [.int .i64 z38.n, v40_39_1] 35)] w ∧ EL termEnc Z cs32 s30.2 ∧ RdN Z v26_7_1 termEnc y6.1 ∧ RdZ Z v40_39_1 3 cL z38.v ∧ Z p1 = some (Cel [.int .i64 x1.a, .int .i64 x1.b, .int .i64 x1.c, .int .i64 x1.d] 45) ∧ Z p12 = some (Cel [.int .i64 0, .int .i64 z11, .int .i64 0] 40) ∧ Z p14 = some (Cel [.func (.func 20) #[] #[.pointer (some ⟨p1, 0, none⟩)]] 46)) ?_ ?_
 rintro a w ⟨Z, s42, hS, h, H, el3, r26_7_1, r40_39_1, hz0_13, hz1_15, hz2_16⟩
 subst eJ42
 refine rg fun K k => ?_
 refine cps 1 h rfl fun a h => ?_
 refine sB h hS rfl (v_not rfl) fun z43 e43 hS a h => ?_
 refine cz k ?_
 refine cI h hS rfl (fun ec44 hS => ?_) fun ec44 hS => ?_
 refine c_lregion ?_
 refine cps 1 h rfl fun a h => ?_
 refine s1 h rfl (lA H 4 isAgg35 sizeOf35 [_, _]) fun a h => ?_
 refine z_slice (enc := (Subtype.val (p := fun l : List Value => l.length = 2))) ([⟨[.int .i64 z38.n, v40_39_1], rfl⟩] : List (Cl 2)) h H underlying25 sizeOf35 zeroValue35 rfl (zl := [.int .i64 0, .slice none 0 0]) (by kernel_rfl) (plA_get 1 2) [_] [_, _] rfl rfl rfl rfl rfl fun a v60_45 Z w hsub X H r60_45 h => ?_
 have el3 := el3.sub hsub
 have r26_7_1 := r26_7_1.sub hsub
 have r40_39_1 := r40_39_1.sub hsub
 have hz0_13 := hsub _ _ hz0_13
 have hz1_15 := hsub _ _ hz1_15
 have hz2_16 := hsub _ _ hz2_16
 have r60_45 : RdN Z v60_45 termEnc [z38] := ⟨_, r60_45, ⟨⟨_, rfl, r40_39_1⟩, trivial⟩⟩
 obtain ⟨c47, hS⟩ := ck hS
 obtain ⟨z48, e48, hS⟩ := bv hS
 obtain ⟨cy_46, ry_46, ey_46⟩ := r60_45
 refine z_appendS (enc := (Subtype.val (p := fun l : List Value => l.length = 2))) (out := cs32) (data := cy_46) h H 3 rfl underlying25 app35 rfl rfl rfl ry_46 (fun c => c.2) ey_46.one (bnd el3.len ey_46.len c47) rfl fun a v61_46 w H h => ?_
 have el3 := EL.append el3 ey_46
 rw [← e48] at el3
 have el3 : EL termEnc Z (List.append (α := Cl 2) cs32 cy_46) z48 := el3
 have H : HZ w0 _ _ [_, _, _, _, _] _ := H
 refine cps 1 h rfl fun a h => ?_
 refine c_lnil ?_
 refine cO h [7, 9, 10, 11, 12, 36, 37, 38] [_, _, _, _, _, _, _, _] fun h => ?_
 refine c_lregion ?_
 refine sI h hS rfl (v_addw rfl rfl) fun z49 e49 hS a h => ?_
 refine cps 1 h rfl fun a h => ?_
 refine c_lnil ?_
 exact exL (ex4 ⟨lpN en30 hS, h.to, (H.keepN 4 rfl), el3, r26_7_1, hz0_13, hz1_15, hz2_16⟩)
 refine c_skip ?_
 refine cO h [7, 9, 10, 11, 12, 36, 37, 38] [_, _, _, _, _, _, _, _] fun h => ?_
 refine c_lregion ?_
 refine sI h hS rfl (v_addw rfl rfl) fun z50 e50 hS a h => ?_
 refine cps 1 h rfl fun a h => ?_
 refine c_lnil ?_
 exact exL (ex4 ⟨lpN en30 hS, h.to, (H.keepN 4 rfl), el3, r26_7_1, hz0_13, hz1_15, hz2_16⟩)
 refine rg fun K k => ?_
 refine s1 h rfl (v_fieldAddr rfl underlying35 rfl sizeOf33 rfl rfl) fun a h => ?_
 refine s1 h rfl (l1 H 4 isAgg33) fun a h => ?_
 refine s1 h rfl (v_len underlying33 rfl (r40_39_1.at H.zin)) fun a h => ?_
 refine cps 1 h rfl fun a h => ?_
 refine cz k ?_
 refine lb ?_
 obtain ⟨B52, eB52, hS⟩ := bv hS
 refine lpJ (fun mu_ a w => ∃ (Z : FZ) (s52 : Bool × Int), loopF B52 mu_ s52 = some res ∧ Fr 84 [(7, v26_7_1), (9, .pointer (some ⟨p12, 0, none⟩)), (10, .pointer (some ⟨p14, 0, none⟩)), (11, .func (.func 21) #[] #[.pointer (some ⟨p12, 0, none⟩), .pointer (some ⟨p14, 0, none⟩)]), (12, sv32), (14, .pointer (some ⟨p40, 0, none⟩)), (15, .bool s52.1), (36, v26_7_1), (37, .int .i64 (y6.1.length : Int)), (38, .int .i64 s30.1), (43, v40_39_1), (44, .int .i64 (z38.v.length : Int)), (45, .int .i64 s52.2)] a ∧ HZ w0 Zi Z [.row 0 1 (.slice none 0 0) 0 [], .row 0 1 (.slice none 0 0) 0 [], .row 0 1 (.slice none 0 0) 0 [], .row 35 2 sv32 cs32.length (cs32.flatMap Subtype.val), .blk p40 (Cel [.int .i64 z38.n, v40_39_1] 35)] w ∧ EL termEnc Z cs32 s30.2 ∧ RdN Z v26_7_1 termEnc y6.1 ∧ RdZ Z v40_39_1 3 cL z38.v ∧ Z p1 = some (Cel [.int .i64 x1.a, .int .i64 x1.b, .int .i64 x1.c, .int .i64 x1.d] 45) ∧ Z p12 = some (Cel [.int .i64 0, .int .i64 z11, .int .i64 0] 40) ∧ Z p14 = some (Cel [.func (.func 20) #[] #[.pointer (some ⟨p1, 0, none⟩)]] 46)) KK ⟨_, _, hS, h.to, H, el3, r26_7_1, r40_39_1, hz0_13, hz1_15, hz2_16⟩ ?_
 rintro mu_ a w ⟨Z, s52, hS, h, H, el3, r26_7_1, r40_39_1, hz0_13, hz1_15, hz2_16⟩
 obtain ⟨mu_, rfl, n52, en52, hS⟩ := lpX eB52 hS
 refine rg fun K k => ?_
 refine sB h hS rfl (v_lt rfl rfl) fun z54 e54 hS a h => ?_
 refine cz k ?_
 refine sq ?_
 refine cI h hS rfl (fun ec56 hS => ?_) fun ec56 hS => ?_
 refine c_skip ?_
 refine sb ?_
 refine rg fun K k => ?_
 obtain ⟨c58, hS⟩ := ck hS
 obtain ⟨z59, e59, hS⟩ := bv hS
 refine st_idx h underlying33 sizeOf40 rfl rfl (r40_39_1.at H.zin) (fun _ => rfl) z59 c58.1 (by rw [e59]; exact gel_some c58) rfl fun a v47 A47 h => ?_
 refine s1 h rfl (v_loadAtA [_, _, _] rfl A47 isAgg40 sizeOf40 rfl rfl) fun a h => ?_
 refine zA h H zeroValue40 [_, _, _] (fun x => [_, _, _, _, _, x]) fun a p60 w X H h => ?_
 have A47 := At.ext A47 X
 refine zS h H 5 sizeOf40 [_, _, _] [_, _, _] [_, _, _, _, _, _] fun w H => ?_
 refine cz k ?_
 refine c_lregion ?_
 refine cps 2 h rfl fun a h => ?_
 refine st_g h rfl rfl (gF rfl) rfl rfl (fun e0 => lA H 5 isAgg40 sizeOf40 [_, _, _]) fun a h => ?_
 refine st_g h rfl rfl (gF rfl) rfl rfl (fun e0 => v_loadA [_, _, _] rfl isAgg40 sizeOf40 (H.zin _ _ hz1_15) rfl rfl) fun a h => ?_
 obtain ⟨z61, e61, hS⟩ := bv hS
 refine st_g h rfl rfl (gF rfl) rfl rfl (fun e0 => vB e61 (v_aggeq (eg e0 rfl) (eg e0 rfl) age40 (agq40 _ _ _ _ _ _))) fun a h => ?_
 refine sB h hS rfl (v_or rfl rfl) fun z62 e62 hS a h => ?_
 refine cps 1 h rfl fun a h => ?_
 refine c_lnil ?_
 refine cO h [7, 9, 10, 11, 12, 14, 15, 36, 37, 38, 43, 44, 45] [_, _, _, _, _, _, _, _, _, _, _, _, _] fun h => ?_
 refine c_lregion ?_
 refine sI h hS rfl (v_addw rfl rfl) fun z63 e63 hS a h => ?_
 refine cps 1 h rfl fun a h => ?_
 refine c_lnil ?_
 exact exL (ex2 ⟨lpN en52 hS, h.to, (H.keepN 5 rfl), el3, r26_7_1, r40_39_1, hz0_13, hz1_15, hz2_16⟩)
 exact c_exit (ex2 ⟨hS, h.to, H, el3, r26_7_1, r40_39_1, hz0_13, hz1_15, hz2_16⟩)
 exact c_exit (ex4 ⟨hS, h.to, H, el3, r26_7_1, hz0_13, hz1_15, hz2_16⟩)
end Go.Proofs.YtlpfcclecmalhaaDoor
