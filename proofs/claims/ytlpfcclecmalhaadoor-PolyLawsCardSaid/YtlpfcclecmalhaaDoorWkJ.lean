/- Walks: the code computes what the partial functions say. -/
import Derived.Test.YtlpfcclecmalhaaDoorSpJ
import Derived.Test.YtlpfcclecmalhaaDoorWkD
set_option linter.unusedSimpArgs false
set_option linter.unusedVariables false
set_option linter.unusedSectionVars false
namespace Go.Proofs.YtlpfcclecmalhaaDoor
open Go.Stp Go.RowKit Go.ValP Go.Sp _root_.Go.Proofs.Tryd
set_option maxRecDepth 100000
theorem reckonerlaw15_PolyLaws_ok {x0 : List (Int)} {x1 : List (Int)} {x2 : List (Int)} {res : Bool} {w0 : World} (hS : reckonerlaw15_PolyLaws x0 x1 x2 = some res) {xv0 : Value} (rp0 : RdZ (hz w0) xv0 1 (eI .u8) x0) {xv1 : Value} (rp1 : RdZ (hz w0) xv1 1 (eI .u8) x1) {xv2 : Value} (rp2 : RdZ (hz w0) xv2 1 (eI .u8) x2) (hG : GW w0) : Calls Tryd.prog 3 [xv0, xv1, xv2].toArray w0 (Ret fun v w => v = .bool res ∧ Ext w0 w) := by
 refine en func3 [0, 1, 2] [_, _, _] fun Q a Zi Z hzs H h hr => ?_
 have rp0 := rp0.sub hzs
 have rp1 := rp1.sub hzs
 have rp2 := rp2.sub hzs
 clear hzs
 unfold reckonerlaw15_PolyLaws at hS
 refine rg fun K k => ?_
 refine cps 1 h rfl fun a h => ?_
 refine cz k ?_
 refine sq ?_
 refine rg fun K k => ?_
 refine sC h H hS rfl (fun y2 f2 => dC call10 (reckonerlaw15_fit_ok f2 (hG.ext H.out) :)) fun y2 hS w X H a h => ?_
 refine sB h hS rfl (v_not rfl) fun z3 e3 hS a h => ?_
 refine cz k ?_
 refine cI h hS rfl (fun ec4 hS => ?_) fun ec4 hS => ?_
 refine rg fun K k => ?_
 refine cps 1 h rfl fun a h => ?_
 refine cN k h [6] [_] fun h => ?_
 cases hS
 refine r1 hr h rfl rfl ⟨rfl, H.out⟩
 refine c_skip ?_
 refine rg fun K k => ?_
 refine cps 1 h rfl fun a h => ?_
 obtain ⟨y5, f5, hS⟩ := bo hS
 refine st2 h rfl rfl rfl (dC call11 (reckonerlaw15_Make_ok (x0 := x0) f5 H.zin rp0)) ?_
 rintro v_ w ⟨v33_6_1, rfl, r33_6_1, X⟩ a h
 obtain ⟨Z, hsub, hadd, H⟩ := H.adopt' X
 have rp0 := rp0.sub hsub
 have rp1 := rp1.sub hsub
 have rp2 := rp2.sub hsub
 have r33_6_1 := r33_6_1.sub hadd
 refine cps 5 h rfl fun a h => ?_
 refine cN k h [1, 2, 7, 8] [_, _, _, _] fun h => ?_
 refine rg fun K k => ?_
 refine cps 1 h rfl fun a h => ?_
 obtain ⟨y7, f7, hS⟩ := bo hS
 refine st2 h rfl rfl rfl (dC call11 (reckonerlaw15_Make_ok (x0 := x1) f7 H.zin rp1)) ?_
 rintro v_ w ⟨v38_8_1, rfl, r38_8_1, X⟩ a h
 obtain ⟨Z, hsub, hadd, H⟩ := H.adopt' X
 have r33_6_1 := r33_6_1.sub hsub
 have rp0 := rp0.sub hsub
 have rp1 := rp1.sub hsub
 have rp2 := rp2.sub hsub
 have r38_8_1 := r38_8_1.sub hadd
 refine cps 5 h rfl fun a h => ?_
 refine cN k h [2, 7, 8, 9, 10] [_, _, _, _, _] fun h => ?_
 refine rg fun K k => ?_
 refine cps 1 h rfl fun a h => ?_
 obtain ⟨y9, f9, hS⟩ := bo hS
 refine st2 h rfl rfl rfl (dC call11 (reckonerlaw15_Make_ok (x0 := x2) f9 H.zin rp2)) ?_
 rintro v_ w ⟨v43_10_1, rfl, r43_10_1, X⟩ a h
 obtain ⟨Z, hsub, hadd, H⟩ := H.adopt' X
 have r33_6_1 := r33_6_1.sub hsub
 have r38_8_1 := r38_8_1.sub hsub
 have rp0 := rp0.sub hsub
 have rp1 := rp1.sub hsub
 have rp2 := rp2.sub hsub
 have r43_10_1 := r43_10_1.sub hadd
 refine cps 5 h rfl fun a h => ?_
 refine cN k h [7, 8, 9, 10, 11, 12] [_, _, _, _, _, _] fun h => ?_
 refine sq ?_
 refine rg fun K k => ?_
 refine cps 1 h rfl fun a h => ?_
 refine sB h hS rfl (v_not rfl) fun z12 e12 hS a h => ?_
 refine cps 1 h rfl fun a h => ?_
 refine st_g h rfl rfl (gF rfl) rfl rfl (fun e0 => v_move rfl) fun a h => ?_
 obtain ⟨z13, e13, hS⟩ := bv hS
 refine st_g h rfl rfl (gF rfl) rfl rfl (fun e0 => vB e13 (v_not (eg e0 rfl))) fun a h => ?_
 refine sB h hS rfl (v_or rfl rfl) fun z14 e14 hS a h => ?_
 refine cps 1 h rfl fun a h => ?_
 refine st_g h rfl rfl (gF rfl) rfl rfl (fun e0 => v_move rfl) fun a h => ?_
 obtain ⟨z15, e15, hS⟩ := bv hS
 refine st_g h rfl rfl (gF rfl) rfl rfl (fun e0 => vB e15 (v_not (eg e0 rfl))) fun a h => ?_
 refine sB h hS rfl (v_or rfl rfl) fun z16 e16 hS a h => ?_
 refine cN k h [7, 9, 11, 55] [_, _, _, _] fun h => ?_
 refine cI h hS rfl (fun ec17 hS => ?_) fun ec17 hS => ?_
 refine rg fun K k => ?_
 refine cps 1 h rfl fun a h => ?_
 refine cN k h [6] [_] fun h => ?_
 cases hS
 refine r1 hr h rfl rfl ⟨rfl, H.out⟩
 refine c_skip ?_
 refine rg fun K k => ?_
 refine cps 3 h rfl fun a h => ?_
 refine z_slice (enc := (Subtype.val (p := fun l : List Value => l.length = 1))) ([⟨[v33_6_1], rfl⟩, ⟨[v38_8_1], rfl⟩, ⟨[v43_10_1], rfl⟩] : List (Cl 1)) h H underlying76 sizeOf25 zeroValue25 rfl (zl := [.slice none 0 0, .slice none 0 0, .slice none 0 0]) (by kernel_rfl) (plA_get 3 1) [_, _, _] [_, _, _] rfl (by obtain ⟨_, _, _, e_⟩ := (r33_6_1).form; subst e_; obtain ⟨_, _, _, e_⟩ := (r38_8_1).form; subst e_; obtain ⟨_, _, _, e_⟩ := (r43_10_1).form; subst e_; rfl) rfl rfl rfl fun a v60_18 Z w hsub X H r60_18 h => ?_
 have r33_6_1 := r33_6_1.sub hsub
 have r38_8_1 := r38_8_1.sub hsub
 have r43_10_1 := r43_10_1.sub hsub
 have rp0 := rp0.sub hsub
 have rp1 := rp1.sub hsub
 have rp2 := rp2.sub hsub
 have r60_18 : RdN Z v60_18 polyEnc [y5.1, y7.1, y9.1] := ⟨_, r60_18, ⟨⟨_, rfl, r33_6_1⟩, ⟨_, rfl, r38_8_1⟩, ⟨_, rfl, r43_10_1⟩, trivial⟩⟩
 obtain ⟨y19, f19, hS⟩ := bo hS
 refine st2 h rfl rfl rfl (dC call12 (poly_Add_ok (x0 := [y5.1, y7.1, y9.1]) f19 H.zin r60_18)) ?_
 rintro v_ w ⟨v61_20_1, rfl, r61_20_1, X⟩ a h
 obtain ⟨Z, hsub, hadd, H⟩ := H.adopt' X
 have r33_6_1 := r33_6_1.sub hsub
 have r38_8_1 := r38_8_1.sub hsub
 have r43_10_1 := r43_10_1.sub hsub
 have r60_18 := r60_18.sub hsub
 have rp0 := rp0.sub hsub
 have rp1 := rp1.sub hsub
 have rp2 := rp2.sub hsub
 have r61_20_1 := r61_20_1.sub hadd
 refine cps 5 h rfl fun a h => ?_
 refine cN k h [7, 9, 11, 13, 14] [_, _, _, _, _] fun h => ?_
 refine rg fun K k => ?_
 refine cps 3 h rfl fun a h => ?_
 refine z_slice (enc := (Subtype.val (p := fun l : List Value => l.length = 1))) ([⟨[v43_10_1], rfl⟩, ⟨[v38_8_1], rfl⟩, ⟨[v33_6_1], rfl⟩] : List (Cl 1)) h H underlying76 sizeOf25 zeroValue25 rfl (zl := [.slice none 0 0, .slice none 0 0, .slice none 0 0]) (by kernel_rfl) (plA_get 3 1) [_, _, _] [_, _, _] rfl (by obtain ⟨_, _, _, e_⟩ := (r43_10_1).form; subst e_; obtain ⟨_, _, _, e_⟩ := (r38_8_1).form; subst e_; obtain ⟨_, _, _, e_⟩ := (r33_6_1).form; subst e_; rfl) rfl rfl rfl fun a v68_21 Z w hsub X H r68_21 h => ?_
 have r33_6_1 := r33_6_1.sub hsub
 have r38_8_1 := r38_8_1.sub hsub
 have r43_10_1 := r43_10_1.sub hsub
 have r61_20_1 := r61_20_1.sub hsub
 have rp0 := rp0.sub hsub
 have rp1 := rp1.sub hsub
 have rp2 := rp2.sub hsub
 have r68_21 : RdN Z v68_21 polyEnc [y9.1, y7.1, y5.1] := ⟨_, r68_21, ⟨⟨_, rfl, r43_10_1⟩, ⟨_, rfl, r38_8_1⟩, ⟨_, rfl, r33_6_1⟩, trivial⟩⟩
 obtain ⟨y22, f22, hS⟩ := bo hS
 refine st2 h rfl rfl rfl (dC call12 (poly_Add_ok (x0 := [y9.1, y7.1, y5.1]) f22 H.zin r68_21)) ?_
 rintro v_ w ⟨v69_23_1, rfl, r69_23_1, X⟩ a h
 obtain ⟨Z, hsub, hadd, H⟩ := H.adopt' X
 have r33_6_1 := r33_6_1.sub hsub
 have r38_8_1 := r38_8_1.sub hsub
 have r43_10_1 := r43_10_1.sub hsub
 have r61_20_1 := r61_20_1.sub hsub
 have r68_21 := r68_21.sub hsub
 have rp0 := rp0.sub hsub
 have rp1 := rp1.sub hsub
 have rp2 := rp2.sub hsub
 have r69_23_1 := r69_23_1.sub hadd
 refine cps 5 h rfl fun a h => ?_
 refine cN k h [7, 9, 11, 13, 14, 15, 16] [_, _, _, _, _, _, _] fun h => ?_
 refine rg fun K k => ?_
 refine cps 2 h rfl fun a h => ?_
 obtain ⟨y24, f24, hS⟩ := bo hS
 refine st2 h rfl rfl rfl (dC call13 (poly_Mul_ok (x0 := y5.1) (x1 := y7.1) f24 H.zin r33_6_1 r38_8_1)) ?_
 rintro v_ w ⟨v75_25_1, rfl, r75_25_1, X⟩ a h
 obtain ⟨Z, hsub, hadd, H⟩ := H.adopt' X
 have r33_6_1 := r33_6_1.sub hsub
 have r38_8_1 := r38_8_1.sub hsub
 have r43_10_1 := r43_10_1.sub hsub
 have r61_20_1 := r61_20_1.sub hsub
 have r69_23_1 := r69_23_1.sub hsub
 have rp0 := rp0.sub hsub
 have rp1 := rp1.sub hsub
 have rp2 := rp2.sub hsub
 have r75_25_1 := r75_25_1.sub hadd
 refine cps 5 h rfl fun a h => ?_
 refine cN k h [7, 9, 11, 13, 14, 15, 16, 17, 18] [_, _, _, _, _, _, _, _, _] fun h => ?_
 refine rg fun K k => ?_
 refine cps 2 h rfl fun a h => ?_
 obtain ⟨y26, f26, hS⟩ := bo hS
 refine st2 h rfl rfl rfl (dC call13 (poly_Mul_ok (x0 := y7.1) (x1 := y5.1) f26 H.zin r38_8_1 r33_6_1)) ?_
 rintro v_ w ⟨v81_27_1, rfl, r81_27_1, X⟩ a h
 obtain ⟨Z, hsub, hadd, H⟩ := H.adopt' X
 have r33_6_1 := r33_6_1.sub hsub
 have r38_8_1 := r38_8_1.sub hsub
 have r43_10_1 := r43_10_1.sub hsub
 have r61_20_1 := r61_20_1.sub hsub
 have r69_23_1 := r69_23_1.sub hsub
 have r75_25_1 := r75_25_1.sub hsub
 have rp0 := rp0.sub hsub
 have rp1 := rp1.sub hsub
 have rp2 := rp2.sub hsub
 have r81_27_1 := r81_27_1.sub hadd
 refine cps 5 h rfl fun a h => ?_
 refine cN k h [7, 9, 11, 13, 14, 15, 16, 17, 18, 19, 20] [_, _, _, _, _, _, _, _, _, _, _] fun h => ?_
 refine sq ?_
 refine rg fun K k => ?_
 refine cps 2 h rfl fun a h => ?_
 refine sB h hS rfl (v_bne underlying4 rfl rfl) fun z29 e29 hS a h => ?_
 refine cps 1 h rfl fun a h => ?_
 refine st_g h rfl rfl (gF rfl) rfl rfl (fun e0 => v_move rfl) fun a h => ?_
 refine st_g h rfl rfl (gF rfl) rfl rfl (fun e0 => v_move rfl) fun a h => ?_
 obtain ⟨z30, e30, hS⟩ := bv hS
 refine st_g h rfl rfl (gF rfl) rfl rfl (fun e0 => vB e30 (v_bne underlying4 (eg e0 rfl) (eg e0 rfl))) fun a h => ?_
 refine sB h hS rfl (v_or rfl rfl) fun z31 e31 hS a h => ?_
 refine cps 1 h rfl fun a h => ?_
 refine st_g h rfl rfl (gF rfl) rfl rfl (fun e0 => v_move rfl) fun a h => ?_
 refine st_g h rfl rfl (gF rfl) rfl rfl (fun e0 => v_move (eg e0 rfl)) fun a h => ?_
 refine st_g h rfl rfl (ggT rfl) rfl rfl (fun e0 => v_move rfl) fun a h => ?_
 refine st_g h rfl rfl (ggT rfl) rfl rfl (fun e0 => v_move rfl) fun a h => ?_
 obtain ⟨y32, f32, hS⟩ := bo hS
 refine st_gd (T := Ext) (V := .bool y32) h rfl rfl (ggT rfl) rfl rfl (Ext.refl _) (fun e0 => d_call [_, _] (evs_c (eg e0 rfl) (evs_c (eg e0 rfl) evs_n)) call14 (reckonerlaw15_same_ok (x0 := y19.1) (x1 := y22.1) (ifT e0 f32) (r61_20_1.hz H.zin) (r69_23_1.hz H.zin) (hG.ext H.out))) fun w X a h => ?_
 have H := H.ext X
 obtain ⟨z33, e33, hS⟩ := bv hS
 refine st_g h rfl rfl (ggT rfl) rfl rfl (fun e0 => vB e33 (v_not (eg e0 rfl))) fun a h => ?_
 obtain ⟨z34, e34, hS⟩ := bv hS
 refine st_g h rfl rfl (gF rfl) rfl rfl (fun e0 => vB e34 (v_and (eg e0 rfl) (egn e0 rfl))) fun a h => ?_
 refine sB h hS rfl (v_or rfl rfl) fun z35 e35 hS a h => ?_
 refine cps 1 h rfl fun a h => ?_
 refine st_g h rfl rfl (gF rfl) rfl rfl (fun e0 => v_move rfl) fun a h => ?_
 refine st_g h rfl rfl (gF rfl) rfl rfl (fun e0 => v_move (eg e0 rfl)) fun a h => ?_
 refine st_g h rfl rfl (ggT rfl) rfl rfl (fun e0 => v_move rfl) fun a h => ?_
 refine st_g h rfl rfl (ggT rfl) rfl rfl (fun e0 => v_move rfl) fun a h => ?_
 obtain ⟨y36, f36, hS⟩ := bo hS
 refine st_gd (T := Ext) (V := .bool y36) h rfl rfl (ggT rfl) rfl rfl (Ext.refl _) (fun e0 => d_call [_, _] (evs_c (eg e0 rfl) (evs_c (eg e0 rfl) evs_n)) call14 (reckonerlaw15_same_ok (x0 := y24.1) (x1 := y26.1) (ifT e0 f36) (r75_25_1.hz H.zin) (r81_27_1.hz H.zin) (hG.ext H.out))) fun w X a h => ?_
 have H := H.ext X
 obtain ⟨z37, e37, hS⟩ := bv hS
 refine st_g h rfl rfl (ggT rfl) rfl rfl (fun e0 => vB e37 (v_not (eg e0 rfl))) fun a h => ?_
 obtain ⟨z38, e38, hS⟩ := bv hS
 refine st_g h rfl rfl (gF rfl) rfl rfl (fun e0 => vB e38 (v_and (eg e0 rfl) (egn e0 rfl))) fun a h => ?_
 refine sB h hS rfl (v_or rfl rfl) fun z39 e39 hS a h => ?_
 refine cN k h [7, 9, 11, 17, 18, 109] [_, _, _, _, _, _] fun h => ?_
 refine cI h hS rfl (fun ec40 hS => ?_) fun ec40 hS => ?_
 refine rg fun K k => ?_
 refine cps 1 h rfl fun a h => ?_
 refine cN k h [6] [_] fun h => ?_
 cases hS
 refine r1 hr h rfl rfl ⟨rfl, H.out⟩
 refine c_skip ?_
 refine rg fun K k => ?_
 refine cps 2 h rfl fun a h => ?_
 refine z_slice (enc := (Subtype.val (p := fun l : List Value => l.length = 1))) ([⟨[v38_8_1], rfl⟩, ⟨[v43_10_1], rfl⟩] : List (Cl 1)) h H underlying76 sizeOf25 zeroValue25 rfl (zl := [.slice none 0 0, .slice none 0 0]) (by kernel_rfl) (plA_get 2 1) [_, _] [_, _] rfl (by obtain ⟨_, _, _, e_⟩ := (r38_8_1).form; subst e_; obtain ⟨_, _, _, e_⟩ := (r43_10_1).form; subst e_; rfl) rfl rfl rfl fun a v113_41 Z w hsub X H r113_41 h => ?_
 have r33_6_1 := r33_6_1.sub hsub
 have r38_8_1 := r38_8_1.sub hsub
 have r43_10_1 := r43_10_1.sub hsub
 have r75_25_1 := r75_25_1.sub hsub
 have rp0 := rp0.sub hsub
 have rp1 := rp1.sub hsub
 have rp2 := rp2.sub hsub
 have r113_41 : RdN Z v113_41 polyEnc [y7.1, y9.1] := ⟨_, r113_41, ⟨⟨_, rfl, r38_8_1⟩, ⟨_, rfl, r43_10_1⟩, trivial⟩⟩
 obtain ⟨y42, f42, hS⟩ := bo hS
 refine st2 h rfl rfl rfl (dC call12 (poly_Add_ok (x0 := [y7.1, y9.1]) f42 H.zin r113_41)) ?_
 rintro v_ w ⟨v114_43_1, rfl, r114_43_1, X⟩ a h
 obtain ⟨Z, hsub, hadd, H⟩ := H.adopt' X
 have r113_41 := r113_41.sub hsub
 have r33_6_1 := r33_6_1.sub hsub
 have r38_8_1 := r38_8_1.sub hsub
 have r43_10_1 := r43_10_1.sub hsub
 have r75_25_1 := r75_25_1.sub hsub
 have rp0 := rp0.sub hsub
 have rp1 := rp1.sub hsub
 have rp2 := rp2.sub hsub
 have r114_43_1 := r114_43_1.sub hadd
 refine cps 5 h rfl fun a h => ?_
 refine cN k h [7, 11, 17, 18, 21, 22] [_, _, _, _, _, _] fun h => ?_
 refine rg fun K k => ?_
 refine cps 2 h rfl fun a h => ?_
 obtain ⟨y44, f44, hS⟩ := bo hS
 refine st2 h rfl rfl rfl (dC call13 (poly_Mul_ok (x0 := y5.1) (x1 := y42.1) f44 H.zin r33_6_1 r114_43_1)) ?_
 rintro v_ w ⟨v120_45_1, rfl, r120_45_1, X⟩ a h
 obtain ⟨Z, hsub, hadd, H⟩ := H.adopt' X
 have r114_43_1 := r114_43_1.sub hsub
 have r33_6_1 := r33_6_1.sub hsub
 have r43_10_1 := r43_10_1.sub hsub
 have r75_25_1 := r75_25_1.sub hsub
 have rp0 := rp0.sub hsub
 have rp1 := rp1.sub hsub
 have rp2 := rp2.sub hsub
 have r120_45_1 := r120_45_1.sub hadd
 refine cps 5 h rfl fun a h => ?_
 refine cN k h [7, 11, 17, 18, 22, 23, 24] [_, _, _, _, _, _, _] fun h => ?_
 refine rg fun K k => ?_
 refine cps 2 h rfl fun a h => ?_
 obtain ⟨y46, f46, hS⟩ := bo hS
 refine st2 h rfl rfl rfl (dC call13 (poly_Mul_ok (x0 := y5.1) (x1 := y9.1) f46 H.zin r33_6_1 r43_10_1)) ?_
 rintro v_ w ⟨v126_47_1, rfl, r126_47_1, X⟩ a h
 obtain ⟨Z, hsub, hadd, H⟩ := H.adopt' X
 have r120_45_1 := r120_45_1.sub hsub
 have r33_6_1 := r33_6_1.sub hsub
 have r43_10_1 := r43_10_1.sub hsub
 have r75_25_1 := r75_25_1.sub hsub
 have rp0 := rp0.sub hsub
 have rp1 := rp1.sub hsub
 have rp2 := rp2.sub hsub
 have r126_47_1 := r126_47_1.sub hadd
 refine cps 5 h rfl fun a h => ?_
 refine cN k h [17, 18, 22, 23, 24, 25, 26] [_, _, _, _, _, _, _] fun h => ?_
 refine sq ?_
 refine rg fun K k => ?_
 refine cps 1 h rfl fun a h => ?_
 refine sB h hS rfl (v_not rfl) fun z49 e49 hS a h => ?_
 refine cps 1 h rfl fun a h => ?_
 refine st_g h rfl rfl (gF rfl) rfl rfl (fun e0 => v_move rfl) fun a h => ?_
 obtain ⟨z50, e50, hS⟩ := bv hS
 refine st_g h rfl rfl (gF rfl) rfl rfl (fun e0 => vB e50 (v_not (eg e0 rfl))) fun a h => ?_
 refine sB h hS rfl (v_or rfl rfl) fun z51 e51 hS a h => ?_
 refine cps 1 h rfl fun a h => ?_
 refine st_g h rfl rfl (gF rfl) rfl rfl (fun e0 => v_move rfl) fun a h => ?_
 obtain ⟨z52, e52, hS⟩ := bv hS
 refine st_g h rfl rfl (gF rfl) rfl rfl (fun e0 => vB e52 (v_not (eg e0 rfl))) fun a h => ?_
 refine sB h hS rfl (v_or rfl rfl) fun z53 e53 hS a h => ?_
 refine cps 1 h rfl fun a h => ?_
 refine st_g h rfl rfl (gF rfl) rfl rfl (fun e0 => v_move rfl) fun a h => ?_
 obtain ⟨z54, e54, hS⟩ := bv hS
 refine st_g h rfl rfl (gF rfl) rfl rfl (fun e0 => vB e54 (v_not (eg e0 rfl))) fun a h => ?_
 refine sB h hS rfl (v_or rfl rfl) fun z55 e55 hS a h => ?_
 refine cN k h [17, 23, 25, 142] [_, _, _, _] fun h => ?_
 refine cI h hS rfl (fun ec56 hS => ?_) fun ec56 hS => ?_
 refine rg fun K k => ?_
 refine cps 1 h rfl fun a h => ?_
 refine cN k h [6] [_] fun h => ?_
 cases hS
 refine r1 hr h rfl rfl ⟨rfl, H.out⟩
 refine c_skip ?_
 refine rg fun K k => ?_
 refine cps 2 h rfl fun a h => ?_
 refine z_slice (enc := (Subtype.val (p := fun l : List Value => l.length = 1))) ([⟨[v75_25_1], rfl⟩, ⟨[v126_47_1], rfl⟩] : List (Cl 1)) h H underlying76 sizeOf25 zeroValue25 rfl (zl := [.slice none 0 0, .slice none 0 0]) (by kernel_rfl) (plA_get 2 1) [_, _] [_, _] rfl (by obtain ⟨_, _, _, e_⟩ := (r75_25_1).form; subst e_; obtain ⟨_, _, _, e_⟩ := (r126_47_1).form; subst e_; rfl) rfl rfl rfl fun a v146_57 Z w hsub X H r146_57 h => ?_
 have r120_45_1 := r120_45_1.sub hsub
 have r126_47_1 := r126_47_1.sub hsub
 have r75_25_1 := r75_25_1.sub hsub
 have rp0 := rp0.sub hsub
 have rp1 := rp1.sub hsub
 have rp2 := rp2.sub hsub
 have r146_57 : RdN Z v146_57 polyEnc [y24.1, y46.1] := ⟨_, r146_57, ⟨⟨_, rfl, r75_25_1⟩, ⟨_, rfl, r126_47_1⟩, trivial⟩⟩
 obtain ⟨y58, f58, hS⟩ := bo hS
 refine st2 h rfl rfl rfl (dC call12 (poly_Add_ok (x0 := [y24.1, y46.1]) f58 H.zin r146_57)) ?_
 rintro v_ w ⟨v147_59_1, rfl, r147_59_1, X⟩ a h
 obtain ⟨Z, hsub, hadd, H⟩ := H.adopt' X
 have r120_45_1 := r120_45_1.sub hsub
 have r126_47_1 := r126_47_1.sub hsub
 have r146_57 := r146_57.sub hsub
 have r75_25_1 := r75_25_1.sub hsub
 have rp0 := rp0.sub hsub
 have rp1 := rp1.sub hsub
 have rp2 := rp2.sub hsub
 have r147_59_1 := r147_59_1.sub hadd
 refine cps 5 h rfl fun a h => ?_
 refine cN k h [23, 27, 28] [_, _, _] fun h => ?_
 refine rg fun K k => ?_
 refine cps 1 h rfl fun a h => ?_
 refine sB h hS rfl (v_not rfl) fun z60 e60 hS a h => ?_
 refine cps 1 h rfl fun a h => ?_
 refine st_g h rfl rfl (gF rfl) rfl rfl (fun e0 => v_move rfl) fun a h => ?_
 refine st_g h rfl rfl (gF rfl) rfl rfl (fun e0 => v_move rfl) fun a h => ?_
 obtain ⟨y61, f61, hS⟩ := bo hS
 refine st_gd (T := Ext) (V := .bool y61) h rfl rfl (gF rfl) rfl rfl (Ext.refl _) (fun e0 => d_call [_, _] (evs_c (eg e0 rfl) (evs_c (eg e0 rfl) evs_n)) call14 (reckonerlaw15_same_ok (x0 := y44.1) (x1 := y58.1) (ifT e0 f61) (r120_45_1.hz H.zin) (r147_59_1.hz H.zin) (hG.ext H.out))) fun w X a h => ?_
 have H := H.ext X
 refine sB h hS rfl (v_or rfl rfl) fun z62 e62 hS a h => ?_
 refine cps 1 h rfl fun a h => ?_
 refine cN k h [6] [_] fun h => ?_
 cases hS
 refine r1 hr h rfl rfl ⟨rfl, H.out⟩
end Go.Proofs.YtlpfcclecmalhaaDoor
