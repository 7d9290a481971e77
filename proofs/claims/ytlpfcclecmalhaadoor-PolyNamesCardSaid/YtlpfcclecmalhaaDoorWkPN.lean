/- Walks: the code computes what the partial functions say. -/
import Derived.Test.YtlpfcclecmalhaaDoorSpPN
import Derived.Test.YtlpfcclecmalhaaDoorWkOf
set_option linter.unusedSimpArgs false
set_option linter.unusedVariables false
set_option linter.unusedSectionVars false
namespace Go.Proofs.YtlpfcclecmalhaaDoor
open Go.Stp Go.RowKit Go.ValP Go.Sp _root_.Go.Proofs.Tryd
set_option maxRecDepth 100000
set_option maxHeartbeats 2000000
theorem reckonerlaw15_PolyNames_ok {x0 : Int} {res : Bool} {w0 : World} (hS : reckonerlaw15_PolyNames x0 = some res) (hG : GW w0) : Calls Tryd.prog 9 [.int .i64 x0].toArray w0 (Ret fun v w => v = .bool res ∧ Ext w0 w) := by
 refine en func9 [] [] fun Q a Zi Z hzs H h hr => ?_
 clear hzs
 unfold reckonerlaw15_PolyNames at hS
 refine rg fun K k => ?_
 refine cps 1 h rfl fun a h => ?_
 refine cz k ?_
 refine sq ?_
 refine rg fun K k => ?_
 refine sC h H hS rfl (fun y2 f2 => dC call10 (reckonerlaw15_fit_ok f2 (hG.ext H.out) :)) fun y2 hS w X H a h => ?_
 refine sB h hS rfl (v_not rfl) fun z3 e3 hS a h => ?_
 refine cz k ?_
 refine cI h hS rfl (fun ec4 hS => ?_) fun ec4 hS => ?_
 refine rg fun K k => ?_
 refine cps 1 h rfl fun a h => ?_
 refine cz k ?_
 cases hS
 refine r1 hr h rfl rfl ⟨rfl, H.out⟩
 refine c_skip ?_
 refine rg fun K k => ?_
 refine s1 (V := .agg (zeroPl.flatMap vL).toArray) h rfl (v_buildZ bldZ) fun a h => ?_
 refine z_box h H rfl (zeroPl.flatMap vL) rfl rfl fun a p5 w X H h => ?_
 have H : HZ w0 _ _ [_] _ := H
 have lp0 := zeroPl_len
 refine cps 1 h rfl fun a h => ?_
 refine cN k h [3] [_] fun h => ?_
 refine rg fun K k => ?_
 refine s1 h rfl (v_build bld64 [_, _] [_, _, _, _, _, _, _, _, _, _, _, _, _, _, _, _, _] rfl rfl) fun a h => ?_
 refine sC h H hS rfl (fun y6 f6 => dC call29 (value_Num_ok f6 :)) fun y6 hS w X H a h => ?_
 obtain ⟨y7, f7, hS⟩ := bo hS
 refine st2 h rfl rfl rfl (dC call28 (tree_Value_ok (x0 := y6) f7)) ?_
 rintro v_ w ⟨v20_8_1, rfl, r20_8_1, X⟩ a h
 obtain ⟨Z, hsub, hadd, H⟩ := H.adopt' X
 have r20_8_1 := r20_8_1.sub (ZB.empty.trans hadd)
 obtain ⟨y9, f9, hS⟩ := bo hS
 refine st2 h rfl rfl rfl (dC call27 (tree_Binary_ok (x0 := (3 : Int)) (x1 := (⟨4, 0, (⟨0, 0, []⟩ : V), (⟨(⟨0, 0, 0⟩ : C), false, false⟩ : Rf), (⟨(⟨0, 0, 0⟩ : C), false, false⟩ : Rf), ([82, 65, 84, 69] : List UInt8), []⟩ : Nd)) (x2 := y7) f9 H.zin RdN.nil r20_8_1)) ?_
 rintro v_ w ⟨v21_10_1, rfl, r21_10_1, X⟩ a h
 obtain ⟨Z, hsub, hadd, H⟩ := H.adopt' X
 have r20_8_1 := r20_8_1.sub hsub
 have r21_10_1 := r21_10_1.sub hadd
 refine cps 1 h rfl fun a h => ?_
 obtain ⟨Z, hsub, H, hz0_11⟩ := H.freezeB 0 rfl rfl
 have r20_8_1 := r20_8_1.sub hsub
 have r21_10_1 := r21_10_1.sub hsub
 have H : HZ w0 _ _ [_] _ := H
 refine s1 h rfl (v_mkIface mkI rfl) fun a h => ?_
 obtain ⟨y12, f12, hS⟩ := bo hS
 refine st2 h rfl rfl rfl (dC call26 (poly_Of_ok KK f12 H.zin r21_10_1 hz0_11 lp0 (hG.ext H.out))) ?_
 rintro v_ w ⟨v24_13_1, rfl, r24_13_1, X⟩ a h
 obtain ⟨Z, hsub, hadd, H⟩ := H.adopt' X
 have r20_8_1 := r20_8_1.sub hsub
 have r21_10_1 := r21_10_1.sub hsub
 have hz0_11 := hsub _ _ hz0_11
 have r24_13_1 := r24_13_1.sub hadd
 refine cps 5 h rfl fun a h => ?_
 refine cN k h [3, 4, 5] [_, _, _] fun h => ?_
 refine rg fun K k => ?_
 refine sC h H hS rfl (fun y14 f14 => dC call31 (tree_Number_ok f14 (hG.ext H.out) :)) fun y14 hS w X H a h => ?_
 refine s1 h rfl (v_build bld64 [_, _] [_, _, _, _, _, _, _, _, _, _, _, _, _, _, _, _, _] rfl rfl) fun a h => ?_
 refine z_slice (enc := (Subtype.val (p := fun l : List Value => l.length = 17))) ([⟨[.int .i64 4, .int .i64 0, .int .i64 0, .int .i64 0, S [], .int .i64 0, .int .i64 0, .int .i64 0, .bool false, .bool false, .int .i64 0, .int .i64 0, .int .i64 0, .bool false, .bool false, S ([76, 73, 83, 84] : List UInt8), .slice none 0 0], rfl⟩] : List (Cl 17)) h H underlying62 sizeOf64 zeroValue64 rfl (zl := [.int .i64 0, .int .i64 0, .int .i64 0, .int .i64 0, S [], .int .i64 0, .int .i64 0, .int .i64 0, .bool false, .bool false, .int .i64 0, .int .i64 0, .int .i64 0, .bool false, .bool false, S [], .slice none 0 0]) (by kernel_rfl) (plA_get 1 17) [_] [_, _, _, _, _, _, _, _, _, _, _, _, _, _, _, _, _] rfl rfl rfl rfl rfl fun a v30_15 Z w hsub X H r30_15 h => ?_
 have r24_13_1 := r24_13_1.sub hsub
 have hz0_11 := hsub _ _ hz0_11
 have r30_15 : RdN Z v30_15 nodeEnc [(⟨4, 0, (⟨0, 0, []⟩ : V), (⟨(⟨0, 0, 0⟩ : C), false, false⟩ : Rf), (⟨(⟨0, 0, 0⟩ : C), false, false⟩ : Rf), ([76, 73, 83, 84] : List UInt8), []⟩ : Nd)] := ⟨_, r30_15, ⟨node_mk ⟨_, rfl, RdN.nil⟩, trivial⟩⟩
 obtain ⟨y16, f16, hS⟩ := bo hS
 refine st2 h rfl rfl rfl (dC call30 (tree_Apply_ok (x0 := y14) (x1 := ([(⟨4, 0, (⟨0, 0, []⟩ : V), (⟨(⟨0, 0, 0⟩ : C), false, false⟩ : Rf), (⟨(⟨0, 0, 0⟩ : C), false, false⟩ : Rf), ([76, 73, 83, 84] : List UInt8), []⟩ : Nd)])) f16 H.zin r30_15)) ?_
 rintro v_ w ⟨v31_17_1, rfl, r31_17_1, X⟩ a h
 obtain ⟨Z, hsub, hadd, H⟩ := H.adopt' X
 have r24_13_1 := r24_13_1.sub hsub
 have r30_15 := r30_15.sub hsub
 have hz0_11 := hsub _ _ hz0_11
 have r31_17_1 := r31_17_1.sub hadd
 refine cps 1 h rfl fun a h => ?_
 refine s1 h rfl (v_mkIface mkI rfl) fun a h => ?_
 obtain ⟨y18, f18, hS⟩ := bo hS
 refine st2 h rfl rfl rfl (dC call26 (poly_Of_ok KK f18 H.zin r31_17_1 hz0_11 lp0 (hG.ext H.out))) ?_
 rintro v_ w ⟨v34_19_1, rfl, r34_19_1, X⟩ a h
 obtain ⟨Z, hsub, hadd, H⟩ := H.adopt' X
 have r24_13_1 := r24_13_1.sub hsub
 have r30_15 := r30_15.sub hsub
 have r31_17_1 := r31_17_1.sub hsub
 have hz0_11 := hsub _ _ hz0_11
 have r34_19_1 := r34_19_1.sub hadd
 refine cps 5 h rfl fun a h => ?_
 refine cN k h [3, 4, 5, 6, 7] [_, _, _, _, _] fun h => ?_
 refine rg fun K k => ?_
 refine s1 h rfl (v_build bld61 [] [_, _, _, _, _] rfl rfl) fun a h => ?_
 obtain ⟨y20, f20, hS⟩ := bo hS
 refine st2 h rfl rfl rfl (dC call32 (tree_Cell_ok (x0 := (⟨(⟨0, 0, 0⟩ : C), false, false⟩ : Rf)) f20)) ?_
 rintro v_ w ⟨v38_21_1, rfl, r38_21_1, X⟩ a h
 obtain ⟨Z, hsub, hadd, H⟩ := H.adopt' X
 have r24_13_1 := r24_13_1.sub hsub
 have r34_19_1 := r34_19_1.sub hsub
 have hz0_11 := hsub _ _ hz0_11
 have r38_21_1 := r38_21_1.sub (ZB.empty.trans hadd)
 refine zA h H zeroValue64 [_, _, _, _, _, _, _, _, _, _, _, _, _, _, _, _, _] (fun x => [_, x]) fun a p22 w X H h => ?_
 refine z_store h H 1 rfl rfl rfl sizeOf64 [_, _, _, _, _, _, _, _, _, _, _, _, _, _, _, _, _] rfl rfl (by obtain ⟨_, _, _, e_⟩ := (r38_21_1).form; subst e_; rfl) (by simp) [_, _, _, _, _, _, _, _, _, _, _, _, _, _, _, _, _] rfl (hl' := [_, _]) rfl fun w H => ?_
 refine cz k ?_
 obtain ⟨J24, eJ24, hS⟩ := bv hS
 refine sqJ (fun a w => ∃ (Z : FZ) (s24 : Unit), J24 s24 = some res ∧ Fr 91 [(4, v24_13_1), (5, .bool y12.2), (6, v34_19_1), (7, .bool y18.2)] a ∧ HZ w0 Zi Z [.row 0 1 (.slice none 0 0) 0 [], .blk p22 (Cel [.int .i64 y20.k, .int .i64 y20.op, .int .i64 y20.v.k, .int .i64 y20.v.n, S y20.v.s, .int .i64 y20.a.c.s, .int .i64 y20.a.c.c, .int .i64 y20.a.c.r, .bool y20.a.ac, .bool y20.a.ar, .int .i64 y20.b.c.s, .int .i64 y20.b.c.c, .int .i64 y20.b.c.r, .bool y20.b.ac, .bool y20.b.ar, S y20.nm, v38_21_1] 64)] w ∧ RdN Z v24_13_1 termEnc y12.1 ∧ RdN Z v34_19_1 termEnc y18.1 ∧ RdN Z v38_21_1 nodeEnc y20.l ∧ Z p5 = some (Cel ((zeroPl : List V).flatMap vL) 58)) ?_ ?_
 rintro a w ⟨Z, s24, hS, h, H, r24_13_1, r34_19_1, r38_21_1, hz0_11⟩
 subst eJ24
 refine rg fun K k => ?_
 refine cps 2 h rfl fun a h => ?_
 refine st_g h rfl rfl (gT rfl) rfl rfl (fun e0 => v_move rfl) fun a h => ?_
 refine sB h hS rfl (v_and rfl rfl) fun z25 e25 hS a h => ?_
 refine cps 1 h rfl fun a h => ?_
 refine st_g h rfl rfl (gT rfl) rfl rfl (fun e0 => v_move rfl) fun a h => ?_
 obtain ⟨y26, f26, hS⟩ := bo hS
 refine st_gd (T := Ext) (V := S y26) h rfl rfl (gT rfl) rfl rfl (Ext.refl _) (fun e0 => d_call [_] (evs_c (eg e0 rfl) evs_n) call15 (poly_Print_ok (x0 := y12.1) (ifT e0 f26) (r24_13_1.hz H.zin) (hG.ext H.out))) fun w X a h => ?_
 have H := H.ext X
 obtain ⟨z27, e27, hS⟩ := bv hS
 refine st_g h rfl rfl (gT rfl) rfl rfl (fun e0 => vB e27 (v_seq (eg e0 rfl) rfl)) fun a h => ?_
 refine sB h hS rfl (v_and rfl rfl) fun z28 e28 hS a h => ?_
 refine cps 1 h rfl fun a h => ?_
 refine st_g h rfl rfl (gT rfl) rfl rfl (fun e0 => v_move rfl) fun a h => ?_
 refine st_g h rfl rfl (gT rfl) rfl rfl (fun e0 => v_lenN underlying25 (eg e0 rfl) r34_19_1 H.zin) fun a h => ?_
 obtain ⟨z29, e29, hS⟩ := bv hS
 refine st_g h rfl rfl (gT rfl) rfl rfl (fun e0 => vB e29 (v_eq (eg e0 rfl) rfl)) fun a h => ?_
 refine sB h hS rfl (v_and rfl rfl) fun z30 e30 hS a h => ?_
 refine cps 1 h rfl fun a h => ?_
 refine st_g (V := .bool true) h rfl rfl (gT rfl) rfl rfl (fun e0 => (fun n a h => by kernel_rfl)) fun a h => ?_
 refine sB h hS rfl (v_and rfl rfl) fun z31 e31 hS a h => ?_
 refine cps 1 h rfl fun a h => ?_
 refine cN k h [2] [_] fun h => ?_
 cases hS
 refine r1 hr h rfl rfl ⟨rfl, H.out⟩
 refine fl h ?_
 refine F1 rfl (fun w X => have H := H.ext X; lA H 1 isAgg64 sizeOf64 [_, _, _, _, _, _, _, _, _, _, _, _, _, _, _, _, _]) ?_
 obtain ⟨y32, f32, hS⟩ := bo hS
 refine f_op [39] rfl rfl rfl rfl false (.rel (fun w' v' => ∃ v40_33_1, v' = .agg #[.int .i64 y32.k, .int .i64 y32.op, .int .i64 y32.v.k, .int .i64 y32.v.n, S y32.v.s, .int .i64 y32.a.c.s, .int .i64 y32.a.c.c, .int .i64 y32.a.c.r, .bool y32.a.ac, .bool y32.a.ar, .int .i64 y32.b.c.s, .int .i64 y32.b.c.c, .int .i64 y32.b.c.r, .bool y32.b.ac, .bool y32.b.ar, S y32.nm, v40_33_1] ∧ RdN (ZB Z w.heap.size w') v40_33_1 nodeEnc y32.l)) (fun w w' v X h => by obtain ⟨v40_33_1, hv, hr0⟩ := h; exact ⟨_, hv, hr0.sub (ZB.grow X)⟩) (fun w X => ?_) ?_
 skip
 exact have Hs := ZB.of H.zin X; have H := H.ext X; Does.doesR (dC call33 (tree_Unary_ok (x0 := (5 : Int)) (x1 := y20) f32 (ZB.inn H.zin) (r38_21_1.sub Hs))) (fun v w' hr => by obtain ⟨v40_33_1, hv, hr0, X'⟩ := hr; exact ⟨⟨_, hv, hr0.sub (ZB.back2 X X')⟩, X'⟩)
 refine F1 rfl (fun w X => have H := H.ext X; lA H 1 isAgg64 sizeOf64 [_, _, _, _, _, _, _, _, _, _, _, _, _, _, _, _, _]) ?_
 obtain ⟨y34, f34, hS⟩ := bo hS
 refine f_op [41] rfl rfl rfl rfl false (.rel (fun w' v' => ∃ v42_35_1, v' = .agg #[.int .i64 y34.k, .int .i64 y34.op, .int .i64 y34.v.k, .int .i64 y34.v.n, S y34.v.s, .int .i64 y34.a.c.s, .int .i64 y34.a.c.c, .int .i64 y34.a.c.r, .bool y34.a.ac, .bool y34.a.ar, .int .i64 y34.b.c.s, .int .i64 y34.b.c.c, .int .i64 y34.b.c.r, .bool y34.b.ac, .bool y34.b.ar, S y34.nm, v42_35_1] ∧ RdN (ZB Z w.heap.size w') v42_35_1 nodeEnc y34.l)) (fun w w' v X h => by obtain ⟨v42_35_1, hv, hr0⟩ := h; exact ⟨_, hv, hr0.sub (ZB.grow X)⟩) (fun w X => ?_) ?_
 skip
 exact have Hs := ZB.of H.zin X; have H := H.ext X; Does.doesR (dC call33 (tree_Unary_ok (x0 := (6 : Int)) (x1 := y20) f34 (ZB.inn H.zin) (r38_21_1.sub Hs))) (fun v w' hr => by obtain ⟨v42_35_1, hv, hr0, X'⟩ := hr; exact ⟨⟨_, hv, hr0.sub (ZB.back2 X X')⟩, X'⟩)
 refine F1 rfl (fun w X => have H := H.ext X; lA H 1 isAgg64 sizeOf64 [_, _, _, _, _, _, _, _, _, _, _, _, _, _, _, _, _]) ?_
 refine F1 rfl (fun w X => have H := H.ext X; lA H 1 isAgg64 sizeOf64 [_, _, _, _, _, _, _, _, _, _, _, _, _, _, _, _, _]) ?_
 obtain ⟨y36, f36, hS⟩ := bo hS
 refine f_op [43, 44] rfl rfl rfl rfl false (.rel (fun w' v' => ∃ v45_37_1, v' = .agg #[.int .i64 y36.k, .int .i64 y36.op, .int .i64 y36.v.k, .int .i64 y36.v.n, S y36.v.s, .int .i64 y36.a.c.s, .int .i64 y36.a.c.c, .int .i64 y36.a.c.r, .bool y36.a.ac, .bool y36.a.ar, .int .i64 y36.b.c.s, .int .i64 y36.b.c.c, .int .i64 y36.b.c.r, .bool y36.b.ac, .bool y36.b.ar, S y36.nm, v45_37_1] ∧ RdN (ZB Z w.heap.size w') v45_37_1 nodeEnc y36.l)) (fun w w' v X h => by obtain ⟨v45_37_1, hv, hr0⟩ := h; exact ⟨_, hv, hr0.sub (ZB.grow X)⟩) (fun w X => ?_) ?_
 skip
 exact have Hs := ZB.of H.zin X; have H := H.ext X; Does.doesR (dC call27 (tree_Binary_ok (x0 := (2 : Int)) (x1 := y20) (x2 := y20) f36 (ZB.inn H.zin) (r38_21_1.sub Hs) (r38_21_1.sub Hs))) (fun v w' hr => by obtain ⟨v45_37_1, hv, hr0, X'⟩ := hr; exact ⟨⟨_, hv, hr0.sub (ZB.back2 X X')⟩, X'⟩)
 refine F1 rfl (fun w X => have H := H.ext X; lA H 1 isAgg64 sizeOf64 [_, _, _, _, _, _, _, _, _, _, _, _, _, _, _, _, _]) ?_
 refine F1 rfl (fun w X => have H := H.ext X; lA H 1 isAgg64 sizeOf64 [_, _, _, _, _, _, _, _, _, _, _, _, _, _, _, _, _]) ?_
 obtain ⟨y38, f38, hS⟩ := bo hS
 refine f_op [46, 47] rfl rfl rfl rfl false (.rel (fun w' v' => ∃ v48_39_1, v' = .agg #[.int .i64 y38.k, .int .i64 y38.op, .int .i64 y38.v.k, .int .i64 y38.v.n, S y38.v.s, .int .i64 y38.a.c.s, .int .i64 y38.a.c.c, .int .i64 y38.a.c.r, .bool y38.a.ac, .bool y38.a.ar, .int .i64 y38.b.c.s, .int .i64 y38.b.c.c, .int .i64 y38.b.c.r, .bool y38.b.ac, .bool y38.b.ar, S y38.nm, v48_39_1] ∧ RdN (ZB Z w.heap.size w') v48_39_1 nodeEnc y38.l)) (fun w w' v X h => by obtain ⟨v48_39_1, hv, hr0⟩ := h; exact ⟨_, hv, hr0.sub (ZB.grow X)⟩) (fun w X => ?_) ?_
 skip
 exact have Hs := ZB.of H.zin X; have H := H.ext X; Does.doesR (dC call27 (tree_Binary_ok (x0 := (4 : Int)) (x1 := y20) (x2 := y20) f38 (ZB.inn H.zin) (r38_21_1.sub Hs) (r38_21_1.sub Hs))) (fun v w' hr => by obtain ⟨v48_39_1, hv, hr0, X'⟩ := hr; exact ⟨⟨_, hv, hr0.sub (ZB.back2 X X')⟩, X'⟩)
 refine fC hS rfl (fun y40 f40 w X => have H := H.ext X; dC call31 (tree_Number_ok f40 (hG.ext H.out) :)) fun y40 hS => ?_
 refine F1 rfl (fun w X => have H := H.ext X; lA H 1 isAgg64 sizeOf64 [_, _, _, _, _, _, _, _, _, _, _, _, _, _, _, _, _]) ?_
 refine f_op [50] rfl rfl rfl rfl false (.rel (fun w' v' => RdN (ZB Z w.heap.size w') v' nodeEnc ([y20] : List (Nd)))) rn_stab (fun w X => ?_) ?_
 skip
 exact d_sliceRN (E := nodeEnc) (data := [y20]) ([⟨[.int .i64 y20.k, .int .i64 y20.op, .int .i64 y20.v.k, .int .i64 y20.v.n, S y20.v.s, .int .i64 y20.a.c.s, .int .i64 y20.a.c.c, .int .i64 y20.a.c.r, .bool y20.a.ac, .bool y20.a.ar, .int .i64 y20.b.c.s, .int .i64 y20.b.c.c, .int .i64 y20.b.c.r, .bool y20.b.ac, .bool y20.b.ar, S y20.nm, v38_21_1], rfl⟩] : List (Cl 17)) H.zin X underlying62 sizeOf64 zeroValue64 rfl (zl := [.int .i64 0, .int .i64 0, .int .i64 0, .int .i64 0, S [], .int .i64 0, .int .i64 0, .int .i64 0, .bool false, .bool false, .int .i64 0, .int .i64 0, .int .i64 0, .bool false, .bool false, S [], .slice none 0 0]) (by kernel_rfl) (plA_get 1 17) [_] [_, _, _, _, _, _, _, _, _, _, _, _, _, _, _, _, _] rfl rfl rfl rfl ⟨node_mk ⟨_, rfl, r38_21_1.sub (ZB.of H.zin X)⟩, trivial⟩
 obtain ⟨y41, f41, hS⟩ := bo hS
 refine f_op [49, 51] rfl rfl rfl rfl false (.rel (fun w' v' => ∃ v52_42_1, v' = .agg #[.int .i64 y41.k, .int .i64 y41.op, .int .i64 y41.v.k, .int .i64 y41.v.n, S y41.v.s, .int .i64 y41.a.c.s, .int .i64 y41.a.c.c, .int .i64 y41.a.c.r, .bool y41.a.ac, .bool y41.a.ar, .int .i64 y41.b.c.s, .int .i64 y41.b.c.c, .int .i64 y41.b.c.r, .bool y41.b.ac, .bool y41.b.ar, S y41.nm, v52_42_1] ∧ RdN (ZB Z w.heap.size w') v52_42_1 nodeEnc y41.l)) (fun w w' v X h => by obtain ⟨v52_42_1, hv, hr0⟩ := h; exact ⟨_, hv, hr0.sub (ZB.grow X)⟩) (fun w X => ?_) ?_
 intro v51 h51
 exact have Hs := ZB.of H.zin X; have H := H.ext X; Does.doesR (dC call30 (tree_Apply_ok (x0 := y40) (x1 := [y20]) f41 (ZB.inn H.zin) h51)) (fun v w' hr => by obtain ⟨v52_42_1, hv, hr0, X'⟩ := hr; exact ⟨⟨_, hv, hr0.sub (ZB.back2 X X')⟩, X'⟩)
 refine fC hS rfl (fun y43 f43 w X => dC call29 (value_Num_ok f43 :)) fun y43 hS => ?_
 obtain ⟨y44, f44, hS⟩ := bo hS
 refine f_op [53] rfl rfl rfl rfl false (.rel (fun w' v' => ∃ v54_45_1, v' = .agg #[.int .i64 y44.k, .int .i64 y44.op, .int .i64 y44.v.k, .int .i64 y44.v.n, S y44.v.s, .int .i64 y44.a.c.s, .int .i64 y44.a.c.c, .int .i64 y44.a.c.r, .bool y44.a.ac, .bool y44.a.ar, .int .i64 y44.b.c.s, .int .i64 y44.b.c.c, .int .i64 y44.b.c.r, .bool y44.b.ac, .bool y44.b.ar, S y44.nm, v54_45_1] ∧ RdN (ZB Z w.heap.size w') v54_45_1 nodeEnc y44.l)) (fun w w' v X h => by obtain ⟨v54_45_1, hv, hr0⟩ := h; exact ⟨_, hv, hr0.sub (ZB.grow X)⟩) (fun w X => ?_) ?_
 skip
 exact have Hs := ZB.of H.zin X; have H := H.ext X; Does.doesR (dC call28 (tree_Value_ok (x0 := y43) f44)) (fun v w' hr => by obtain ⟨v54_45_1, hv, hr0, X'⟩ := hr; exact ⟨⟨_, hv, hr0.sub (ZB.back X X')⟩, X'⟩)
 refine fC hS rfl (fun y46 f46 w X => dC call34 (value_Bool_ok f46 :)) fun y46 hS => ?_
 obtain ⟨y47, f47, hS⟩ := bo hS
 refine f_op [55] rfl rfl rfl rfl false (.rel (fun w' v' => ∃ v56_48_1, v' = .agg #[.int .i64 y47.k, .int .i64 y47.op, .int .i64 y47.v.k, .int .i64 y47.v.n, S y47.v.s, .int .i64 y47.a.c.s, .int .i64 y47.a.c.c, .int .i64 y47.a.c.r, .bool y47.a.ac, .bool y47.a.ar, .int .i64 y47.b.c.s, .int .i64 y47.b.c.c, .int .i64 y47.b.c.r, .bool y47.b.ac, .bool y47.b.ar, S y47.nm, v56_48_1] ∧ RdN (ZB Z w.heap.size w') v56_48_1 nodeEnc y47.l)) (fun w w' v X h => by obtain ⟨v56_48_1, hv, hr0⟩ := h; exact ⟨_, hv, hr0.sub (ZB.grow X)⟩) (fun w X => ?_) ?_
 skip
 exact have Hs := ZB.of H.zin X; have H := H.ext X; Does.doesR (dC call28 (tree_Value_ok (x0 := y46) f47)) (fun v w' hr => by obtain ⟨v56_48_1, hv, hr0, X'⟩ := hr; exact ⟨⟨_, hv, hr0.sub (ZB.back X X')⟩, X'⟩)
 refine F1 rfl (fun w X => v_build bld64 [_, _] [_, _, _, _, _, _, _, _, _, _, _, _, _, _, _, _, _] rfl rfl) ?_
 refine F1 rfl (fun w X => v_build bld64 [_, _] [_, _, _, _, _, _, _, _, _, _, _, _, _, _, _, _, _] rfl rfl) ?_
 refine f_op [40, 42, 45, 48, 52, 54, 56, 57, 58] rfl rfl rfl rfl false (.rel (fun w' v' => RdN (ZB Z w.heap.size w') v' nodeEnc (([y32, y34, y36, y38, y41, y44, y47, (⟨4, 0, (⟨0, 0, []⟩ : V), (⟨(⟨0, 0, 0⟩ : C), false, false⟩ : Rf), (⟨(⟨0, 0, 0⟩ : C), false, false⟩ : Rf), ([78, 79, 78, 69] : List UInt8), []⟩ : Nd), (⟨4, 0, (⟨0, 0, []⟩ : V), (⟨(⟨0, 0, 0⟩ : C), false, false⟩ : Rf), (⟨(⟨0, 0, 0⟩ : C), false, false⟩ : Rf), ([76, 73, 83, 84] : List UInt8), []⟩ : Nd)] : List (Nd))))) rn_stab (fun w X => ?_) ?_
 intro v40 h40 v42 h42 v45 h45 v48 h48 v52 h52 v54 h54 v56 h56
 obtain ⟨v40_33_1, rfl, r40_33_1⟩ := h40
 obtain ⟨v42_35_1, rfl, r42_35_1⟩ := h42
 obtain ⟨v45_37_1, rfl, r45_37_1⟩ := h45
 obtain ⟨v48_39_1, rfl, r48_39_1⟩ := h48
 obtain ⟨v52_42_1, rfl, r52_42_1⟩ := h52
 obtain ⟨v54_45_1, rfl, r54_45_1⟩ := h54
 obtain ⟨v56_48_1, rfl, r56_48_1⟩ := h56
 exact d_sliceRN (E := nodeEnc) (data := [y32, y34, y36, y38, y41, y44, y47, (⟨4, 0, (⟨0, 0, []⟩ : V), (⟨(⟨0, 0, 0⟩ : C), false, false⟩ : Rf), (⟨(⟨0, 0, 0⟩ : C), false, false⟩ : Rf), ([78, 79, 78, 69] : List UInt8), []⟩ : Nd), (⟨4, 0, (⟨0, 0, []⟩ : V), (⟨(⟨0, 0, 0⟩ : C), false, false⟩ : Rf), (⟨(⟨0, 0, 0⟩ : C), false, false⟩ : Rf), ([76, 73, 83, 84] : List UInt8), []⟩ : Nd)]) ([⟨[.int .i64 y32.k, .int .i64 y32.op, .int .i64 y32.v.k, .int .i64 y32.v.n, S y32.v.s, .int .i64 y32.a.c.s, .int .i64 y32.a.c.c, .int .i64 y32.a.c.r, .bool y32.a.ac, .bool y32.a.ar, .int .i64 y32.b.c.s, .int .i64 y32.b.c.c, .int .i64 y32.b.c.r, .bool y32.b.ac, .bool y32.b.ar, S y32.nm, v40_33_1], rfl⟩, ⟨[.int .i64 y34.k, .int .i64 y34.op, .int .i64 y34.v.k, .int .i64 y34.v.n, S y34.v.s, .int .i64 y34.a.c.s, .int .i64 y34.a.c.c, .int .i64 y34.a.c.r, .bool y34.a.ac, .bool y34.a.ar, .int .i64 y34.b.c.s, .int .i64 y34.b.c.c, .int .i64 y34.b.c.r, .bool y34.b.ac, .bool y34.b.ar, S y34.nm, v42_35_1], rfl⟩, ⟨[.int .i64 y36.k, .int .i64 y36.op, .int .i64 y36.v.k, .int .i64 y36.v.n, S y36.v.s, .int .i64 y36.a.c.s, .int .i64 y36.a.c.c, .int .i64 y36.a.c.r, .bool y36.a.ac, .bool y36.a.ar, .int .i64 y36.b.c.s, .int .i64 y36.b.c.c, .int .i64 y36.b.c.r, .bool y36.b.ac, .bool y36.b.ar, S y36.nm, v45_37_1], rfl⟩, ⟨[.int .i64 y38.k, .int .i64 y38.op, .int .i64 y38.v.k, .int .i64 y38.v.n, S y38.v.s, .int .i64 y38.a.c.s, .int .i64 y38.a.c.c, .int .i64 y38.a.c.r, .bool y38.a.ac, .bool y38.a.ar, .int .i64 y38.b.c.s, .int .i64 y38.b.c.c, .int .i64 y38.b.c.r, .bool y38.b.ac, .bool y38.b.ar, S y38.nm, v48_39_1], rfl⟩, ⟨[.int .i64 y41.k, .int .i64 y41.op, .int .i64 y41.v.k, .int .i64 y41.v.n, S y41.v.s, .int .i64 y41.a.c.s, .int .i64 y41.a.c.c, .int .i64 y41.a.c.r, .bool y41.a.ac, .bool y41.a.ar, .int .i64 y41.b.c.s, .int .i64 y41.b.c.c, .int .i64 y41.b.c.r, .bool y41.b.ac, .bool y41.b.ar, S y41.nm, v52_42_1], rfl⟩, ⟨[.int .i64 y44.k, .int .i64 y44.op, .int .i64 y44.v.k, .int .i64 y44.v.n, S y44.v.s, .int .i64 y44.a.c.s, .int .i64 y44.a.c.c, .int .i64 y44.a.c.r, .bool y44.a.ac, .bool y44.a.ar, .int .i64 y44.b.c.s, .int .i64 y44.b.c.c, .int .i64 y44.b.c.r, .bool y44.b.ac, .bool y44.b.ar, S y44.nm, v54_45_1], rfl⟩, ⟨[.int .i64 y47.k, .int .i64 y47.op, .int .i64 y47.v.k, .int .i64 y47.v.n, S y47.v.s, .int .i64 y47.a.c.s, .int .i64 y47.a.c.c, .int .i64 y47.a.c.r, .bool y47.a.ac, .bool y47.a.ar, .int .i64 y47.b.c.s, .int .i64 y47.b.c.c, .int .i64 y47.b.c.r, .bool y47.b.ac, .bool y47.b.ar, S y47.nm, v56_48_1], rfl⟩, ⟨[.int .i64 4, .int .i64 0, .int .i64 0, .int .i64 0, S [], .int .i64 0, .int .i64 0, .int .i64 0, .bool false, .bool false, .int .i64 0, .int .i64 0, .int .i64 0, .bool false, .bool false, S ([78, 79, 78, 69] : List UInt8), .slice none 0 0], rfl⟩, ⟨[.int .i64 4, .int .i64 0, .int .i64 0, .int .i64 0, S [], .int .i64 0, .int .i64 0, .int .i64 0, .bool false, .bool false, .int .i64 0, .int .i64 0, .int .i64 0, .bool false, .bool false, S ([76, 73, 83, 84] : List UInt8), .slice none 0 0], rfl⟩] : List (Cl 17)) H.zin X underlying62 sizeOf64 zeroValue64 rfl (zl := [.int .i64 0, .int .i64 0, .int .i64 0, .int .i64 0, S [], .int .i64 0, .int .i64 0, .int .i64 0, .bool false, .bool false, .int .i64 0, .int .i64 0, .int .i64 0, .bool false, .bool false, S [], .slice none 0 0, .int .i64 0, .int .i64 0, .int .i64 0, .int .i64 0, S [], .int .i64 0, .int .i64 0, .int .i64 0, .bool false, .bool false, .int .i64 0, .int .i64 0, .int .i64 0, .bool false, .bool false, S [], .slice none 0 0, .int .i64 0, .int .i64 0, .int .i64 0, .int .i64 0, S [], .int .i64 0, .int .i64 0, .int .i64 0, .bool false, .bool false, .int .i64 0, .int .i64 0, .int .i64 0, .bool false, .bool false, S [], .slice none 0 0, .int .i64 0, .int .i64 0, .int .i64 0, .int .i64 0, S [], .int .i64 0, .int .i64 0, .int .i64 0, .bool false, .bool false, .int .i64 0, .int .i64 0, .int .i64 0, .bool false, .bool false, S [], .slice none 0 0, .int .i64 0, .int .i64 0, .int .i64 0, .int .i64 0, S [], .int .i64 0, .int .i64 0, .int .i64 0, .bool false, .bool false, .int .i64 0, .int .i64 0, .int .i64 0, .bool false, .bool false, S [], .slice none 0 0, .int .i64 0, .int .i64 0, .int .i64 0, .int .i64 0, S [], .int .i64 0, .int .i64 0, .int .i64 0, .bool false, .bool false, .int .i64 0, .int .i64 0, .int .i64 0, .bool false, .bool false, S [], .slice none 0 0, .int .i64 0, .int .i64 0, .int .i64 0, .int .i64 0, S [], .int .i64 0, .int .i64 0, .int .i64 0, .bool false, .bool false, .int .i64 0, .int .i64 0, .int .i64 0, .bool false, .bool false, S [], .slice none 0 0, .int .i64 0, .int .i64 0, .int .i64 0, .int .i64 0, S [], .int .i64 0, .int .i64 0, .int .i64 0, .bool false, .bool false, .int .i64 0, .int .i64 0, .int .i64 0, .bool false, .bool false, S [], .slice none 0 0, .int .i64 0, .int .i64 0, .int .i64 0, .int .i64 0, S [], .int .i64 0, .int .i64 0, .int .i64 0, .bool false, .bool false, .int .i64 0, .int .i64 0, .int .i64 0, .bool false, .bool false, S [], .slice none 0 0]) (by kernel_rfl) (plA_get 9 17) [.agg #[.int .i64 y32.k, .int .i64 y32.op, .int .i64 y32.v.k, .int .i64 y32.v.n, S y32.v.s, .int .i64 y32.a.c.s, .int .i64 y32.a.c.c, .int .i64 y32.a.c.r, .bool y32.a.ac, .bool y32.a.ar, .int .i64 y32.b.c.s, .int .i64 y32.b.c.c, .int .i64 y32.b.c.r, .bool y32.b.ac, .bool y32.b.ar, S y32.nm, v40_33_1], .agg #[.int .i64 y34.k, .int .i64 y34.op, .int .i64 y34.v.k, .int .i64 y34.v.n, S y34.v.s, .int .i64 y34.a.c.s, .int .i64 y34.a.c.c, .int .i64 y34.a.c.r, .bool y34.a.ac, .bool y34.a.ar, .int .i64 y34.b.c.s, .int .i64 y34.b.c.c, .int .i64 y34.b.c.r, .bool y34.b.ac, .bool y34.b.ar, S y34.nm, v42_35_1], .agg #[.int .i64 y36.k, .int .i64 y36.op, .int .i64 y36.v.k, .int .i64 y36.v.n, S y36.v.s, .int .i64 y36.a.c.s, .int .i64 y36.a.c.c, .int .i64 y36.a.c.r, .bool y36.a.ac, .bool y36.a.ar, .int .i64 y36.b.c.s, .int .i64 y36.b.c.c, .int .i64 y36.b.c.r, .bool y36.b.ac, .bool y36.b.ar, S y36.nm, v45_37_1], .agg #[.int .i64 y38.k, .int .i64 y38.op, .int .i64 y38.v.k, .int .i64 y38.v.n, S y38.v.s, .int .i64 y38.a.c.s, .int .i64 y38.a.c.c, .int .i64 y38.a.c.r, .bool y38.a.ac, .bool y38.a.ar, .int .i64 y38.b.c.s, .int .i64 y38.b.c.c, .int .i64 y38.b.c.r, .bool y38.b.ac, .bool y38.b.ar, S y38.nm, v48_39_1], .agg #[.int .i64 y41.k, .int .i64 y41.op, .int .i64 y41.v.k, .int .i64 y41.v.n, S y41.v.s, .int .i64 y41.a.c.s, .int .i64 y41.a.c.c, .int .i64 y41.a.c.r, .bool y41.a.ac, .bool y41.a.ar, .int .i64 y41.b.c.s, .int .i64 y41.b.c.c, .int .i64 y41.b.c.r, .bool y41.b.ac, .bool y41.b.ar, S y41.nm, v52_42_1], .agg #[.int .i64 y44.k, .int .i64 y44.op, .int .i64 y44.v.k, .int .i64 y44.v.n, S y44.v.s, .int .i64 y44.a.c.s, .int .i64 y44.a.c.c, .int .i64 y44.a.c.r, .bool y44.a.ac, .bool y44.a.ar, .int .i64 y44.b.c.s, .int .i64 y44.b.c.c, .int .i64 y44.b.c.r, .bool y44.b.ac, .bool y44.b.ar, S y44.nm, v54_45_1], .agg #[.int .i64 y47.k, .int .i64 y47.op, .int .i64 y47.v.k, .int .i64 y47.v.n, S y47.v.s, .int .i64 y47.a.c.s, .int .i64 y47.a.c.c, .int .i64 y47.a.c.r, .bool y47.a.ac, .bool y47.a.ar, .int .i64 y47.b.c.s, .int .i64 y47.b.c.c, .int .i64 y47.b.c.r, .bool y47.b.ac, .bool y47.b.ar, S y47.nm, v56_48_1], .agg #[.int .i64 4, .int .i64 0, .int .i64 0, .int .i64 0, S [], .int .i64 0, .int .i64 0, .int .i64 0, .bool false, .bool false, .int .i64 0, .int .i64 0, .int .i64 0, .bool false, .bool false, S ([78, 79, 78, 69] : List UInt8), .slice none 0 0], .agg #[.int .i64 4, .int .i64 0, .int .i64 0, .int .i64 0, S [], .int .i64 0, .int .i64 0, .int .i64 0, .bool false, .bool false, .int .i64 0, .int .i64 0, .int .i64 0, .bool false, .bool false, S ([76, 73, 83, 84] : List UInt8), .slice none 0 0]] [.int .i64 y32.k, .int .i64 y32.op, .int .i64 y32.v.k, .int .i64 y32.v.n, S y32.v.s, .int .i64 y32.a.c.s, .int .i64 y32.a.c.c, .int .i64 y32.a.c.r, .bool y32.a.ac, .bool y32.a.ar, .int .i64 y32.b.c.s, .int .i64 y32.b.c.c, .int .i64 y32.b.c.r, .bool y32.b.ac, .bool y32.b.ar, S y32.nm, v40_33_1, .int .i64 y34.k, .int .i64 y34.op, .int .i64 y34.v.k, .int .i64 y34.v.n, S y34.v.s, .int .i64 y34.a.c.s, .int .i64 y34.a.c.c, .int .i64 y34.a.c.r, .bool y34.a.ac, .bool y34.a.ar, .int .i64 y34.b.c.s, .int .i64 y34.b.c.c, .int .i64 y34.b.c.r, .bool y34.b.ac, .bool y34.b.ar, S y34.nm, v42_35_1, .int .i64 y36.k, .int .i64 y36.op, .int .i64 y36.v.k, .int .i64 y36.v.n, S y36.v.s, .int .i64 y36.a.c.s, .int .i64 y36.a.c.c, .int .i64 y36.a.c.r, .bool y36.a.ac, .bool y36.a.ar, .int .i64 y36.b.c.s, .int .i64 y36.b.c.c, .int .i64 y36.b.c.r, .bool y36.b.ac, .bool y36.b.ar, S y36.nm, v45_37_1, .int .i64 y38.k, .int .i64 y38.op, .int .i64 y38.v.k, .int .i64 y38.v.n, S y38.v.s, .int .i64 y38.a.c.s, .int .i64 y38.a.c.c, .int .i64 y38.a.c.r, .bool y38.a.ac, .bool y38.a.ar, .int .i64 y38.b.c.s, .int .i64 y38.b.c.c, .int .i64 y38.b.c.r, .bool y38.b.ac, .bool y38.b.ar, S y38.nm, v48_39_1, .int .i64 y41.k, .int .i64 y41.op, .int .i64 y41.v.k, .int .i64 y41.v.n, S y41.v.s, .int .i64 y41.a.c.s, .int .i64 y41.a.c.c, .int .i64 y41.a.c.r, .bool y41.a.ac, .bool y41.a.ar, .int .i64 y41.b.c.s, .int .i64 y41.b.c.c, .int .i64 y41.b.c.r, .bool y41.b.ac, .bool y41.b.ar, S y41.nm, v52_42_1, .int .i64 y44.k, .int .i64 y44.op, .int .i64 y44.v.k, .int .i64 y44.v.n, S y44.v.s, .int .i64 y44.a.c.s, .int .i64 y44.a.c.c, .int .i64 y44.a.c.r, .bool y44.a.ac, .bool y44.a.ar, .int .i64 y44.b.c.s, .int .i64 y44.b.c.c, .int .i64 y44.b.c.r, .bool y44.b.ac, .bool y44.b.ar, S y44.nm, v54_45_1, .int .i64 y47.k, .int .i64 y47.op, .int .i64 y47.v.k, .int .i64 y47.v.n, S y47.v.s, .int .i64 y47.a.c.s, .int .i64 y47.a.c.c, .int .i64 y47.a.c.r, .bool y47.a.ac, .bool y47.a.ar, .int .i64 y47.b.c.s, .int .i64 y47.b.c.c, .int .i64 y47.b.c.r, .bool y47.b.ac, .bool y47.b.ar, S y47.nm, v56_48_1, .int .i64 4, .int .i64 0, .int .i64 0, .int .i64 0, S [], .int .i64 0, .int .i64 0, .int .i64 0, .bool false, .bool false, .int .i64 0, .int .i64 0, .int .i64 0, .bool false, .bool false, S ([78, 79, 78, 69] : List UInt8), .slice none 0 0, .int .i64 4, .int .i64 0, .int .i64 0, .int .i64 0, S [], .int .i64 0, .int .i64 0, .int .i64 0, .bool false, .bool false, .int .i64 0, .int .i64 0, .int .i64 0, .bool false, .bool false, S ([76, 73, 83, 84] : List UInt8), .slice none 0 0] rfl (by kernel_rfl) rfl (by kernel_rfl) ⟨node_mk ⟨_, rfl, r40_33_1⟩, node_mk ⟨_, rfl, r42_35_1⟩, node_mk ⟨_, rfl, r45_37_1⟩, node_mk ⟨_, rfl, r48_39_1⟩, node_mk ⟨_, rfl, r52_42_1⟩, node_mk ⟨_, rfl, r54_45_1⟩, node_mk ⟨_, rfl, r56_48_1⟩, node_mk ⟨_, rfl, RdN.nil⟩, node_mk ⟨_, rfl, RdN.nil⟩, trivial⟩
 refine f_op [59] rfl rfl rfl rfl false (.eq (.int .i64 ((([y32, y34, y36, y38, y41, y44, y47, (⟨4, 0, (⟨0, 0, []⟩ : V), (⟨(⟨0, 0, 0⟩ : C), false, false⟩ : Rf), (⟨(⟨0, 0, 0⟩ : C), false, false⟩ : Rf), ([78, 79, 78, 69] : List UInt8), []⟩ : Nd), (⟨4, 0, (⟨0, 0, []⟩ : V), (⟨(⟨0, 0, 0⟩ : C), false, false⟩ : Rf), (⟨(⟨0, 0, 0⟩ : C), false, false⟩ : Rf), ([76, 73, 83, 84] : List UInt8), []⟩ : Nd)]).length : Int)))) trivial (fun w X => ?_) ?_
 intro v59 h59
 exact have H := H.ext X; (v_lenN underlying62 rfl h59 (ZB.inn H.zin)).doesF
 refine fcps 1 rfl ?_
 refine fn_ ?_
 intro a w X hR hA
 obtain ⟨v59_49, r59_49, h⟩ := hR.out [3, 4, 5, 6, 7, 59, 60, 61]
 have h : Fr 91 [(61, _), (60, _), (59, _), (7, _), (6, _), (5, _), (4, _), (3, _)] a := h
 obtain ⟨Z, hsub, hadd, H⟩ := H.adopt' X
 have r24_13_1 := r24_13_1.sub hsub
 have r34_19_1 := r34_19_1.sub hsub
 have r38_21_1 := r38_21_1.sub hsub
 have hz0_11 := hsub _ _ hz0_11
 have r59_49 := r59_49.sub hadd
 refine lb ?_
 obtain ⟨B51, eB51, hS⟩ := bv hS
 refine lpJ (fun mu_ a w => ∃ (Z : FZ) (s51 : Int), loopF B51 mu_ s51 = some res ∧ Fr 91 [(3, .pointer (some ⟨p5, 0, none⟩)), (4, v24_13_1), (5, .bool y12.2), (6, v34_19_1), (7, .bool y18.2), (59, v59_49), (60, .int .i64 ((([y32, y34, y36, y38, y41, y44, y47, (⟨4, 0, (⟨0, 0, []⟩ : V), (⟨(⟨0, 0, 0⟩ : C), false, false⟩ : Rf), (⟨(⟨0, 0, 0⟩ : C), false, false⟩ : Rf), ([78, 79, 78, 69] : List UInt8), []⟩ : Nd), (⟨4, 0, (⟨0, 0, []⟩ : V), (⟨(⟨0, 0, 0⟩ : C), false, false⟩ : Rf), (⟨(⟨0, 0, 0⟩ : C), false, false⟩ : Rf), ([76, 73, 83, 84] : List UInt8), []⟩ : Nd)]).length : Int))), (61, .int .i64 s51)] a ∧ HZ w0 Zi Z [.row 0 1 (.slice none 0 0) 0 [], .blk p22 (Cel [.int .i64 y20.k, .int .i64 y20.op, .int .i64 y20.v.k, .int .i64 y20.v.n, S y20.v.s, .int .i64 y20.a.c.s, .int .i64 y20.a.c.c, .int .i64 y20.a.c.r, .bool y20.a.ac, .bool y20.a.ar, .int .i64 y20.b.c.s, .int .i64 y20.b.c.c, .int .i64 y20.b.c.r, .bool y20.b.ac, .bool y20.b.ar, S y20.nm, v38_21_1] 64)] w ∧ RdN Z v24_13_1 termEnc y12.1 ∧ RdN Z v34_19_1 termEnc y18.1 ∧ RdN Z v59_49 nodeEnc ([y32, y34, y36, y38, y41, y44, y47, (⟨4, 0, (⟨0, 0, []⟩ : V), (⟨(⟨0, 0, 0⟩ : C), false, false⟩ : Rf), (⟨(⟨0, 0, 0⟩ : C), false, false⟩ : Rf), ([78, 79, 78, 69] : List UInt8), []⟩ : Nd), (⟨4, 0, (⟨0, 0, []⟩ : V), (⟨(⟨0, 0, 0⟩ : C), false, false⟩ : Rf), (⟨(⟨0, 0, 0⟩ : C), false, false⟩ : Rf), ([76, 73, 83, 84] : List UInt8), []⟩ : Nd)]) ∧ RdN Z v38_21_1 nodeEnc y20.l ∧ Z p5 = some (Cel ((zeroPl : List V).flatMap vL) 58)) KK ⟨_, _, hS, h.to, H, r24_13_1, r34_19_1, r59_49, r38_21_1, hz0_11⟩ ?_
 rintro mu_ a w ⟨Z, s51, hS, h, H, r24_13_1, r34_19_1, r59_49, r38_21_1, hz0_11⟩
 obtain ⟨mu_, rfl, n51, en51, hS⟩ := lpX eB51 hS
 refine rg fun K k => ?_
 refine sB h hS rfl (v_lt rfl rfl) fun z53 e53 hS a h => ?_
 refine cz k ?_
 refine sq ?_
 refine cI h hS rfl (fun ec55 hS => ?_) fun ec55 hS => ?_
 refine c_skip ?_
 refine sb ?_
 refine rg fun K k => ?_
 obtain ⟨c57, hS⟩ := ck hS
 obtain ⟨z58, e58, hS⟩ := bv hS
 have q_59 := r59_49.gel ⟨_, nodeEnc_dflt⟩ s51
 rw [← e58] at q_59
 obtain ⟨css_59, cl_59, rc_59, hc_59, q_59⟩ := q_59
 obtain ⟨v63_59_1, hcs_59, r63_59_1⟩ := node_op q_59
 refine st_idxC h underlying62 sizeOf64 rfl rfl (rc_59.at H.zin) c57.1 (hc_59 c57) hcs_59 rfl fun a v63 A63 h => ?_
 refine s1 h rfl (v_loadAtA [_, _, _, _, _, _, _, _, _, _, _, _, _, _, _, _, _] rfl A63 isAgg64 sizeOf64 rfl rfl) fun a h => ?_
 refine zA h H zeroValue64 [_, _, _, _, _, _, _, _, _, _, _, _, _, _, _, _, _] (fun x => [_, _, x]) fun a p60 w X H h => ?_
 have A63 := At.ext A63 X
 refine z_store h H 2 rfl rfl rfl sizeOf64 [_, _, _, _, _, _, _, _, _, _, _, _, _, _, _, _, _] rfl rfl (by obtain ⟨_, _, _, e_⟩ := (r63_59_1).form; subst e_; rfl) (by simp) [_, _, _, _, _, _, _, _, _, _, _, _, _, _, _, _, _] rfl (hl' := [_, _, _]) rfl fun w H => ?_
 refine cz k ?_
 refine rg fun K k => ?_
 refine s1 h rfl (lA H 2 isAgg64 sizeOf64 [_, _, _, _, _, _, _, _, _, _, _, _, _, _, _, _, _]) fun a h => ?_
 refine cps 1 h rfl fun a h => ?_
 refine s1 h rfl (v_mkIface mkI rfl) fun a h => ?_
 obtain ⟨y61, f61, hS⟩ := bo hS
 refine st2 h rfl rfl rfl (dC call26 (poly_Of_ok KK f61 H.zin r63_59_1 hz0_11 lp0 (hG.ext H.out))) ?_
 rintro v_ w ⟨v69_62_1, rfl, r69_62_1, X⟩ a h
 obtain ⟨Z, hsub, hadd, H⟩ := H.adopt' X
 have r24_13_1 := r24_13_1.sub hsub
 have r34_19_1 := r34_19_1.sub hsub
 have r38_21_1 := r38_21_1.sub hsub
 have r59_49 := r59_49.sub hsub
 have r63_59_1 := r63_59_1.sub hsub
 have hz0_11 := hsub _ _ hz0_11
 have r69_62_1 := r69_62_1.sub hadd
 refine cps 5 h rfl fun a h => ?_
 refine cN k h [3, 4, 5, 6, 7, 12, 59, 60, 61] [_, _, _, _, _, _, _, _, _] fun h => ?_
 refine rg fun K k => ?_
 refine cps 1 h rfl fun a h => ?_
 refine cz k ?_
 refine cI h hS rfl (fun ec63 hS => ?_) fun ec63 hS => ?_
 refine rg fun K k => ?_
 refine cps 1 h rfl fun a h => ?_
 refine cN k h [2] [_] fun h => ?_
 cases hS
 refine r1 hr h rfl rfl ⟨rfl, H.out⟩
 refine c_skip ?_
 refine c_lregion ?_
 refine sI h hS rfl (v_addw rfl rfl) fun z64 e64 hS a h => ?_
 refine cps 1 h rfl fun a h => ?_
 refine c_lnil ?_
 exact exL (ex2 ⟨lpN en51 hS, h.to, (H.keepN 2 rfl), r24_13_1, r34_19_1, r59_49, r38_21_1, hz0_11⟩)
 exact c_exit (exU1 ⟨hS, h.to, H, r24_13_1, r34_19_1, r38_21_1, hz0_11⟩)
end Go.Proofs.YtlpfcclecmalhaaDoor
