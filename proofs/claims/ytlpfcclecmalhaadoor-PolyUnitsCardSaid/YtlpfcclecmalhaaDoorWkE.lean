/- Walks: the code computes what the partial functions say. -/
import Derived.Test.YtlpfcclecmalhaaDoorSpE
import Derived.Test.YtlpfcclecmalhaaDoorWkD
set_option linter.unusedSimpArgs false
set_option linter.unusedVariables false
set_option linter.unusedSectionVars false
namespace Go.Proofs.YtlpfcclecmalhaaDoor
open Go.Stp Go.RowKit Go.ValP Go.Sp _root_.Go.Proofs.Tryd
set_option maxRecDepth 100000
theorem reckonerlaw15_PolyUnits_1_ok {x0 : C} {res : Bool} {w0 : World} (hS : reckonerlaw15_PolyUnits_1 x0 = some res) : Calls Tryd.prog 19 [.agg #[.int .i64 x0.s, .int .i64 x0.c, .int .i64 x0.r]].toArray w0 (Ret fun v w => v = .bool res ∧ Ext w0 w) := by
 refine en func19 [0] [_] fun Q a Zi Z hzs H h hr => ?_
 clear hzs
 unfold reckonerlaw15_PolyUnits_1 at hS
 refine rg fun K k => ?_
 refine z_box h H rfl [_, _, _] rfl rfl fun a p1 w X H h => ?_
 have H : HZ w0 _ _ [_] _ := H
 refine cps 1 h rfl fun a h => ?_
 refine cz k ?_
 refine rg fun K k => ?_
 refine cps 1 h rfl fun a h => ?_
 refine cz k ?_
 cases hS
 refine r1 hr h rfl rfl ⟨rfl, H.out⟩

theorem reckonerlaw15_PolyUnits_ok {x0 : List (Int)} {res : Bool} {w0 : World} (hS : reckonerlaw15_PolyUnits x0 = some res) {xv0 : Value} (rp0 : RdZ (hz w0) xv0 1 (eI .u8) x0) (hG : GW w0) : Calls Tryd.prog 6 [xv0].toArray w0 (Ret fun v w => v = .bool res ∧ Ext w0 w) := by
 refine en func6 [0] [_] fun Q a Zi Z hzs H h hr => ?_
 have rp0 := rp0.sub hzs
 clear hzs
 unfold reckonerlaw15_PolyUnits at hS
 refine rg fun K k => ?_
 refine cps 1 h rfl fun a h => ?_
 refine cz k ?_
 refine sq ?_
 refine rg fun K k => ?_
 refine sC h H hS rfl (fun y2 f2 => dC call10 (reckonerlaw15_fit_ok f2 (hG.ext H.out) :)) fun y2 hS w X H a h => ?_
 refine sB h hS rfl (v_not rfl) fun z3 e3 hS a h => ?_
 refine cz k ?_
 refine cI h hS rfl (fun ec4 hS => ?_) fun ec4 hS => ?_
 refine rg fun K k => ?_
 refine cps 1 h rfl fun a h => ?_
 refine cz k ?_
 cases hS
 refine r1 hr h rfl rfl ⟨rfl, H.out⟩
 refine c_skip ?_
 refine rg fun K k => ?_
 refine cps 1 h rfl fun a h => ?_
 obtain ⟨y5, f5, hS⟩ := bo hS
 refine st2 h rfl rfl rfl (dC call11 (reckonerlaw15_Make_ok (x0 := x0) f5 H.zin rp0)) ?_
 rintro v_ w ⟨v21_6_1, rfl, r21_6_1, X⟩ a h
 obtain ⟨Z, hsub, hadd, H⟩ := H.adopt' X
 have rp0 := rp0.sub hsub
 have r21_6_1 := r21_6_1.sub hadd
 refine cps 5 h rfl fun a h => ?_
 refine cN k h [3, 4] [_, _] fun h => ?_
 refine sq ?_
 refine rg fun K k => ?_
 refine cps 1 h rfl fun a h => ?_
 refine sB h hS rfl (v_not rfl) fun z8 e8 hS a h => ?_
 refine cz k ?_
 refine cI h hS rfl (fun ec9 hS => ?_) fun ec9 hS => ?_
 refine rg fun K k => ?_
 refine cps 1 h rfl fun a h => ?_
 refine cN k h [2] [_] fun h => ?_
 cases hS
 refine r1 hr h rfl rfl ⟨rfl, H.out⟩
 refine c_skip ?_
 refine rg fun K k => ?_
 obtain ⟨y10, f10, hS⟩ := bo hS
 refine st2 h rfl rfl rfl (dC call16 (poly_Const_ok (x0 := (0 : Int)) f10 H.zin)) ?_
 rintro v_ w ⟨v27_11_1, rfl, r27_11_1, X⟩ a h
 obtain ⟨Z, hsub, hadd, H⟩ := H.adopt' X
 have r21_6_1 := r21_6_1.sub hsub
 have rp0 := rp0.sub hsub
 have r27_11_1 := r27_11_1.sub hadd
 refine cps 5 h rfl fun a h => ?_
 refine cN k h [3, 5] [_, _] fun h => ?_
 refine rg fun K k => ?_
 obtain ⟨y12, f12, hS⟩ := bo hS
 refine st2 h rfl rfl rfl (dC call16 (poly_Const_ok (x0 := (1 : Int)) f12 H.zin)) ?_
 rintro v_ w ⟨v31_13_1, rfl, r31_13_1, X⟩ a h
 obtain ⟨Z, hsub, hadd, H⟩ := H.adopt' X
 have r21_6_1 := r21_6_1.sub hsub
 have r27_11_1 := r27_11_1.sub hsub
 have rp0 := rp0.sub hsub
 have r31_13_1 := r31_13_1.sub hadd
 refine cps 5 h rfl fun a h => ?_
 refine cN k h [3, 5, 7] [_, _, _] fun h => ?_
 refine rg fun K k => ?_
 refine cps 2 h rfl fun a h => ?_
 refine z_slice (enc := (Subtype.val (p := fun l : List Value => l.length = 1))) ([⟨[v21_6_1], rfl⟩, ⟨[v27_11_1], rfl⟩] : List (Cl 1)) h H underlying76 sizeOf25 zeroValue25 rfl (zl := [.slice none 0 0, .slice none 0 0]) (by kernel_rfl) (plA_get 2 1) [_, _] [_, _] rfl (by obtain ⟨_, _, _, e_⟩ := (r21_6_1).form; subst e_; obtain ⟨_, _, _, e_⟩ := (r27_11_1).form; subst e_; rfl) rfl rfl rfl fun a v37_14 Z w hsub X H r37_14 h => ?_
 have r21_6_1 := r21_6_1.sub hsub
 have r27_11_1 := r27_11_1.sub hsub
 have r31_13_1 := r31_13_1.sub hsub
 have rp0 := rp0.sub hsub
 have r37_14 : RdN Z v37_14 polyEnc [y5.1, y10.1] := ⟨_, r37_14, ⟨⟨_, rfl, r21_6_1⟩, ⟨_, rfl, r27_11_1⟩, trivial⟩⟩
 obtain ⟨y15, f15, hS⟩ := bo hS
 refine st2 h rfl rfl rfl (dC call12 (poly_Add_ok (x0 := [y5.1, y10.1]) f15 H.zin r37_14)) ?_
 rintro v_ w ⟨v38_16_1, rfl, r38_16_1, X⟩ a h
 obtain ⟨Z, hsub, hadd, H⟩ := H.adopt' X
 have r21_6_1 := r21_6_1.sub hsub
 have r27_11_1 := r27_11_1.sub hsub
 have r31_13_1 := r31_13_1.sub hsub
 have r37_14 := r37_14.sub hsub
 have rp0 := rp0.sub hsub
 have r38_16_1 := r38_16_1.sub hadd
 refine cps 5 h rfl fun a h => ?_
 refine cN k h [3, 5, 7, 9, 10] [_, _, _, _, _] fun h => ?_
 refine rg fun K k => ?_
 refine cps 2 h rfl fun a h => ?_
 obtain ⟨y17, f17, hS⟩ := bo hS
 refine st2 h rfl rfl rfl (dC call13 (poly_Mul_ok (x0 := y5.1) (x1 := y12.1) f17 H.zin r21_6_1 r31_13_1)) ?_
 rintro v_ w ⟨v44_18_1, rfl, r44_18_1, X⟩ a h
 obtain ⟨Z, hsub, hadd, H⟩ := H.adopt' X
 have r21_6_1 := r21_6_1.sub hsub
 have r27_11_1 := r27_11_1.sub hsub
 have r31_13_1 := r31_13_1.sub hsub
 have r38_16_1 := r38_16_1.sub hsub
 have rp0 := rp0.sub hsub
 have r44_18_1 := r44_18_1.sub hadd
 refine cps 5 h rfl fun a h => ?_
 refine cN k h [3, 5, 9, 10, 11, 12] [_, _, _, _, _, _] fun h => ?_
 refine rg fun K k => ?_
 refine cps 2 h rfl fun a h => ?_
 obtain ⟨y19, f19, hS⟩ := bo hS
 refine st2 h rfl rfl rfl (dC call13 (poly_Mul_ok (x0 := y10.1) (x1 := y5.1) f19 H.zin r27_11_1 r21_6_1)) ?_
 rintro v_ w ⟨v50_20_1, rfl, r50_20_1, X⟩ a h
 obtain ⟨Z, hsub, hadd, H⟩ := H.adopt' X
 have r21_6_1 := r21_6_1.sub hsub
 have r27_11_1 := r27_11_1.sub hsub
 have r38_16_1 := r38_16_1.sub hsub
 have r44_18_1 := r44_18_1.sub hsub
 have rp0 := rp0.sub hsub
 have r50_20_1 := r50_20_1.sub hadd
 refine cps 5 h rfl fun a h => ?_
 refine cN k h [3, 5, 9, 10, 11, 12, 13, 14] [_, _, _, _, _, _, _, _] fun h => ?_
 refine rg fun K k => ?_
 obtain ⟨y21, f21, hS⟩ := bo hS
 refine st2 h rfl rfl rfl (dC call12 (poly_Add_ok (x0 := []) f21 H.zin RdN.nil)) ?_
 rintro v_ w ⟨v54_22_1, rfl, r54_22_1, X⟩ a h
 obtain ⟨Z, hsub, hadd, H⟩ := H.adopt' X
 have r21_6_1 := r21_6_1.sub hsub
 have r27_11_1 := r27_11_1.sub hsub
 have r38_16_1 := r38_16_1.sub hsub
 have r44_18_1 := r44_18_1.sub hsub
 have r50_20_1 := r50_20_1.sub hsub
 have rp0 := rp0.sub hsub
 have r54_22_1 := r54_22_1.sub hadd
 refine cps 5 h rfl fun a h => ?_
 refine cN k h [3, 5, 9, 10, 11, 12, 13, 14, 15, 16] [_, _, _, _, _, _, _, _, _, _] fun h => ?_
 refine rg fun K k => ?_
 refine cps 2 h rfl fun a h => ?_
 refine st_g h rfl rfl (gT rfl) rfl rfl (fun e0 => v_move rfl) fun a h => ?_
 refine sB h hS rfl (v_and rfl rfl) fun z23 e23 hS a h => ?_
 refine cps 1 h rfl fun a h => ?_
 refine st_g h rfl rfl (gT rfl) rfl rfl (fun e0 => v_move rfl) fun a h => ?_
 refine sB h hS rfl (v_and rfl rfl) fun z24 e24 hS a h => ?_
 refine cps 1 h rfl fun a h => ?_
 refine st_g h rfl rfl (gT rfl) rfl rfl (fun e0 => v_move rfl) fun a h => ?_
 refine sB h hS rfl (v_and rfl rfl) fun z25 e25 hS a h => ?_
 refine cps 1 h rfl fun a h => ?_
 refine st_g h rfl rfl (gT rfl) rfl rfl (fun e0 => v_move rfl) fun a h => ?_
 refine st_g h rfl rfl (gT rfl) rfl rfl (fun e0 => v_move rfl) fun a h => ?_
 obtain ⟨y26, f26, hS⟩ := bo hS
 refine st_gd (T := Ext) (V := .bool y26) h rfl rfl (gT rfl) rfl rfl (Ext.refl _) (fun e0 => d_call [_, _] (evs_c (eg e0 rfl) (evs_c (eg e0 rfl) evs_n)) call14 (reckonerlaw15_same_ok (x0 := y15.1) (x1 := y5.1) (ifT e0 f26) (r38_16_1.hz H.zin) (r21_6_1.hz H.zin) (hG.ext H.out))) fun w X a h => ?_
 have H := H.ext X
 refine sB h hS rfl (v_and rfl rfl) fun z27 e27 hS a h => ?_
 refine cps 1 h rfl fun a h => ?_
 refine st_g h rfl rfl (gT rfl) rfl rfl (fun e0 => v_move rfl) fun a h => ?_
 refine st_g h rfl rfl (gT rfl) rfl rfl (fun e0 => v_move rfl) fun a h => ?_
 obtain ⟨y28, f28, hS⟩ := bo hS
 refine st_gd (T := Ext) (V := .bool y28) h rfl rfl (gT rfl) rfl rfl (Ext.refl _) (fun e0 => d_call [_, _] (evs_c (eg e0 rfl) (evs_c (eg e0 rfl) evs_n)) call14 (reckonerlaw15_same_ok (x0 := y17.1) (x1 := y5.1) (ifT e0 f28) (r44_18_1.hz H.zin) (r21_6_1.hz H.zin) (hG.ext H.out))) fun w X a h => ?_
 have H := H.ext X
 refine sB h hS rfl (v_and rfl rfl) fun z29 e29 hS a h => ?_
 refine cps 1 h rfl fun a h => ?_
 refine st_g h rfl rfl (gT rfl) rfl rfl (fun e0 => v_move rfl) fun a h => ?_
 refine st_g h rfl rfl (gT rfl) rfl rfl (fun e0 => v_lenN underlying25 (eg e0 rfl) r50_20_1 H.zin) fun a h => ?_
 obtain ⟨z30, e30, hS⟩ := bv hS
 refine st_g h rfl rfl (gT rfl) rfl rfl (fun e0 => vB e30 (v_eq (eg e0 rfl) rfl)) fun a h => ?_
 refine sB h hS rfl (v_and rfl rfl) fun z31 e31 hS a h => ?_
 refine cps 1 h rfl fun a h => ?_
 refine st_g h rfl rfl (gT rfl) rfl rfl (fun e0 => v_move rfl) fun a h => ?_
 refine st_g h rfl rfl (gT rfl) rfl rfl (fun e0 => v_lenN underlying25 (eg e0 rfl) r54_22_1 H.zin) fun a h => ?_
 obtain ⟨z32, e32, hS⟩ := bv hS
 refine st_g h rfl rfl (gT rfl) rfl rfl (fun e0 => vB e32 (v_eq (eg e0 rfl) rfl)) fun a h => ?_
 refine sB h hS rfl (v_and rfl rfl) fun z33 e33 hS a h => ?_
 refine cps 1 h rfl fun a h => ?_
 refine st_g h rfl rfl (gT rfl) rfl rfl (fun e0 => v_move rfl) fun a h => ?_
 obtain ⟨y35, f35, hS⟩ := bo hS
 refine st_gd (T := Ext) (V := .bool y35) h rfl rfl (gT rfl) rfl rfl (Ext.refl _) (fun e0 => d_call [_, _] (evs_c (eg e0 rfl) (evs_c rfl evs_n)) call18 (poly_Holds_ok (x0 := y10.1) (x1 := (fun c34 => reckonerlaw15_PolyUnits_1 c34)) (ifT e0 f35) H.zin r27_11_1 ⟨call19, fun c34 r_ w_ hi_ hg_ => reckonerlaw15_PolyUnits_1_ok hg_ ⟩)) fun w X a h => ?_
 have H := H.ext X
 obtain ⟨z36, e36, hS⟩ := bv hS
 refine st_g h rfl rfl (gT rfl) rfl rfl (fun e0 => vB e36 (v_not (eg e0 rfl))) fun a h => ?_
 refine sB h hS rfl (v_and rfl rfl) fun z37 e37 hS a h => ?_
 refine cps 1 h rfl fun a h => ?_
 refine cN k h [2] [_] fun h => ?_
 cases hS
 refine r1 hr h rfl rfl ⟨rfl, H.out⟩
end Go.Proofs.YtlpfcclecmalhaaDoor
