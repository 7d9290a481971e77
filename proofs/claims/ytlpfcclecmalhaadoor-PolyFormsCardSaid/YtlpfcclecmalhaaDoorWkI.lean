/- Walks: the code computes what the partial functions say. -/
import Derived.Test.YtlpfcclecmalhaaDoorSpI
import Derived.Test.YtlpfcclecmalhaaDoorWkD
set_option linter.unusedSimpArgs false
set_option linter.unusedVariables false
set_option linter.unusedSectionVars false
namespace Go.Proofs.YtlpfcclecmalhaaDoor
open Go.Stp Go.RowKit Go.ValP Go.Sp _root_.Go.Proofs.Tryd
set_option maxRecDepth 100000
theorem reckonerlaw15_PolyForms_ok {x0 : List (Int)} {res : Bool} {w0 : World} (hS : reckonerlaw15_PolyForms x0 = some res) {xv0 : Value} (rp0 : RdZ (hz w0) xv0 1 (eI .u8) x0) (hG : GW w0) : Calls Tryd.prog 4 [xv0].toArray w0 (Ret fun v w => v = .bool res ∧ Ext w0 w) := by
 refine en func4 [0] [_] fun Q a Zi Z hzs H h hr => ?_
 have rp0 := rp0.sub hzs
 clear hzs
 unfold reckonerlaw15_PolyForms at hS
 refine rg fun K k => ?_
 refine cps 1 h rfl fun a h => ?_
 refine cz k ?_
 refine sq ?_
 refine rg fun K k => ?_
 refine sC h H hS rfl (fun y2 f2 => dC call10 (reckonerlaw15_fit_ok f2 (hG.ext H.out) :)) fun y2 hS w X H a h => ?_
 refine sB h hS rfl (v_not rfl) fun z3 e3 hS a h => ?_
 refine cz k ?_
 refine cI h hS rfl (fun ec4 hS => ?_) fun ec4 hS => ?_
 refine rg fun K k => ?_
 refine cps 1 h rfl fun a h => ?_
 refine cz k ?_
 cases hS
 refine r1 hr h rfl rfl ⟨rfl, H.out⟩
 refine c_skip ?_
 refine rg fun K k => ?_
 refine cps 1 h rfl fun a h => ?_
 obtain ⟨y5, f5, hS⟩ := bo hS
 refine st2 h rfl rfl rfl (dC call11 (reckonerlaw15_Make_ok (x0 := x0) f5 H.zin rp0)) ?_
 rintro v_ w ⟨v20_6_1, rfl, r20_6_1, X⟩ a h
 obtain ⟨Z, hsub, hadd, H⟩ := H.adopt' X
 have rp0 := rp0.sub hsub
 have r20_6_1 := r20_6_1.sub hadd
 refine cps 5 h rfl fun a h => ?_
 refine cN k h [3, 4] [_, _] fun h => ?_
 refine sq ?_
 refine rg fun K k => ?_
 refine cps 1 h rfl fun a h => ?_
 refine sB h hS rfl (v_not rfl) fun z8 e8 hS a h => ?_
 refine cz k ?_
 refine cI h hS rfl (fun ec9 hS => ?_) fun ec9 hS => ?_
 refine rg fun K k => ?_
 refine cps 1 h rfl fun a h => ?_
 refine s1 h rfl (v_lenN underlying25 rfl r20_6_1 H.zin) fun a h => ?_
 refine sB h hS rfl (v_eq rfl rfl) fun z10 e10 hS a h => ?_
 refine cps 1 h rfl fun a h => ?_
 refine cN k h [2] [_] fun h => ?_
 cases hS
 refine r1 hr h rfl rfl ⟨rfl, H.out⟩
 refine c_skip ?_
 refine rg fun K k => ?_
 refine z_makeMap S Value.bool h H rfl fun a p11 w X H h => ?_
 have H : HZ w0 _ _ [_] _ := H
 refine cps 1 h rfl fun a h => ?_
 refine cN k h [3, 5] [_, _] fun h => ?_
 refine rg fun K k => ?_
 refine cps 1 h rfl fun a h => ?_
 refine cz k ?_
 obtain ⟨J13, eJ13, hS⟩ := bv hS
 refine sqJ (fun a w => ∃ (Z : FZ) (s13 : (List (List UInt8 × Bool))), J13 s13 = some res ∧ Fr 108 [(3, v20_6_1)] a ∧ HZ w0 Zi Z [.blk p11 (MObj S Value.bool s13)] w ∧ RdN Z v20_6_1 termEnc y5.1) ?_ ?_
 rintro a w ⟨Z, s13, hS, h, H, r20_6_1⟩
 subst eJ13
 refine rg fun K k => ?_
 obtain ⟨y14, f14, hS⟩ := bo hS
 refine st2 h rfl rfl rfl (dC call16 (poly_Const_ok (x0 := ((-1) : Int)) f14 H.zin)) ?_
 rintro v_ w ⟨v73_15_1, rfl, r73_15_1, X⟩ a h
 obtain ⟨Z, hsub, hadd, H⟩ := H.adopt' X
 have r20_6_1 := r20_6_1.sub hsub
 have r73_15_1 := r73_15_1.sub hadd
 refine cps 5 h rfl fun a h => ?_
 refine cN k h [3, 11] [_, _] fun h => ?_
 refine rg fun K k => ?_
 obtain ⟨y16, f16, hS⟩ := bo hS
 refine st2 h rfl rfl rfl (dC call16 (poly_Const_ok (x0 := (1000001 : Int)) f16 H.zin)) ?_
 rintro v_ w ⟨v77_17_1, rfl, r77_17_1, X⟩ a h
 obtain ⟨Z, hsub, hadd, H⟩ := H.adopt' X
 have r20_6_1 := r20_6_1.sub hsub
 have r77_17_1 := r77_17_1.sub hadd
 refine cps 5 h rfl fun a h => ?_
 refine cN k h [3, 11, 13] [_, _, _] fun h => ?_
 refine rg fun K k => ?_
 obtain ⟨y18, f18, hS⟩ := bo hS
 refine st2 h rfl rfl rfl (dC call16 (poly_Const_ok (x0 := (0 : Int)) f18 H.zin)) ?_
 rintro v_ w ⟨v81_19_1, rfl, r81_19_1, X⟩ a h
 obtain ⟨Z, hsub, hadd, H⟩ := H.adopt' X
 have r20_6_1 := r20_6_1.sub hsub
 have r81_19_1 := r81_19_1.sub hadd
 refine cps 5 h rfl fun a h => ?_
 refine cN k h [3, 11, 13, 14, 15] [_, _, _, _, _] fun h => ?_
 refine rg fun K k => ?_
 refine cps 1 h rfl fun a h => ?_
 refine s1 h rfl (v_lenN underlying25 rfl r20_6_1 H.zin) fun a h => ?_
 refine sB h hS rfl (v_le rfl rfl) fun z20 e20 hS a h => ?_
 refine cps 1 h rfl fun a h => ?_
 refine st_g h rfl rfl (gT rfl) rfl rfl (fun e0 => v_move rfl) fun a h => ?_
 obtain ⟨z21, e21, hS⟩ := bv hS
 refine st_g h rfl rfl (gT rfl) rfl rfl (fun e0 => vB e21 (v_not (eg e0 rfl))) fun a h => ?_
 refine sB h hS rfl (v_and rfl rfl) fun z22 e22 hS a h => ?_
 refine cps 1 h rfl fun a h => ?_
 refine st_g h rfl rfl (gT rfl) rfl rfl (fun e0 => v_move rfl) fun a h => ?_
 obtain ⟨z23, e23, hS⟩ := bv hS
 refine st_g h rfl rfl (gT rfl) rfl rfl (fun e0 => vB e23 (v_not (eg e0 rfl))) fun a h => ?_
 refine sB h hS rfl (v_and rfl rfl) fun z24 e24 hS a h => ?_
 refine cps 1 h rfl fun a h => ?_
 refine st_g h rfl rfl (gT rfl) rfl rfl (fun e0 => v_move rfl) fun a h => ?_
 refine sB h hS rfl (v_and rfl rfl) fun z25 e25 hS a h => ?_
 refine cps 1 h rfl fun a h => ?_
 refine st_g h rfl rfl (gT rfl) rfl rfl (fun e0 => v_move rfl) fun a h => ?_
 refine st_g h rfl rfl (gT rfl) rfl rfl (fun e0 => v_lenN underlying25 (eg e0 rfl) r81_19_1 H.zin) fun a h => ?_
 obtain ⟨z26, e26, hS⟩ := bv hS
 refine st_g h rfl rfl (gT rfl) rfl rfl (fun e0 => vB e26 (v_eq (eg e0 rfl) rfl)) fun a h => ?_
 refine sB h hS rfl (v_and rfl rfl) fun z27 e27 hS a h => ?_
 refine cps 1 h rfl fun a h => ?_
 refine st_g h rfl rfl (gT rfl) rfl rfl (fun e0 => v_move rfl) fun a h => ?_
 obtain ⟨y28, f28, hS⟩ := bo hS
 refine st_gd (T := Ext) (V := S y28) h rfl rfl (gT rfl) rfl rfl (Ext.refl _) (fun e0 => d_call [_] (evs_c (eg e0 rfl) evs_n) call15 (poly_Print_ok (x0 := y18.1) (ifT e0 f28) (r81_19_1.hz H.zin) (hG.ext H.out))) fun w X a h => ?_
 have H := H.ext X
 obtain ⟨z29, e29, hS⟩ := bv hS
 refine st_g h rfl rfl (gT rfl) rfl rfl (fun e0 => vB e29 (v_seq (eg e0 rfl) rfl)) fun a h => ?_
 refine sB h hS rfl (v_and rfl rfl) fun z30 e30 hS a h => ?_
 refine cps 1 h rfl fun a h => ?_
 refine cN k h [2] [_] fun h => ?_
 cases hS
 refine r1 hr h rfl rfl ⟨rfl, H.out⟩
 refine rg fun K k => ?_
 refine cps 1 h rfl fun a h => ?_
 refine s1 h rfl (v_lenN underlying25 rfl r20_6_1 H.zin) fun a h => ?_
 refine cps 1 h rfl fun a h => ?_
 refine cz k ?_
 refine lb ?_
 obtain ⟨B32, eB32, hS⟩ := bv hS
 refine lpJ (fun mu_ a w => ∃ (Z : FZ) (s32 : Int × Int × (List (List UInt8 × Bool))), loopF B32 mu_ s32 = some res ∧ Fr 108 [(3, v20_6_1), (5, .map (some p11)), (6, .int .i64 s32.1), (29, v20_6_1), (30, .int .i64 (y5.1.length : Int)), (31, .int .i64 s32.2.1)] a ∧ HZ w0 Zi Z [.blk p11 (MObj S Value.bool s32.2.2)] w ∧ RdN Z v20_6_1 termEnc y5.1) KK ⟨_, _, hS, h.to, H, r20_6_1⟩ ?_
 rintro mu_ a w ⟨Z, s32, hS, h, H, r20_6_1⟩
 obtain ⟨mu_, rfl, n32, en32, hS⟩ := lpX eB32 hS
 refine rg fun K k => ?_
 refine sB h hS rfl (v_lt rfl rfl) fun z34 e34 hS a h => ?_
 refine cz k ?_
 refine sq ?_
 refine cI h hS rfl (fun ec36 hS => ?_) fun ec36 hS => ?_
 refine c_skip ?_
 refine sb ?_
 refine rg fun K k => ?_
 obtain ⟨c38, hS⟩ := ck hS
 obtain ⟨z39, e39, hS⟩ := bv hS
 have q_40 := r20_6_1.gel ⟨_, termEnc_dflt⟩ s32.2.1
 rw [← e39] at q_40
 obtain ⟨css_40, cl_40, rc_40, hc_40, v33_40_1, hcs_40, r33_40_1⟩ := q_40
 refine st_idxC h underlying25 sizeOf35 rfl rfl (rc_40.at H.zin) c38.1 (hc_40 c38) hcs_40 rfl fun a v33 A33 h => ?_
 refine s1 h rfl (v_loadAtA [_, _] rfl A33 isAgg35 sizeOf35 rfl rfl) fun a h => ?_
 refine zA h H zeroValue35 [_, _] (fun x => [_, x]) fun a p41 w X H h => ?_
 have A33 := At.ext A33 X
 refine z_store h H 1 rfl rfl rfl sizeOf35 [_, _] rfl rfl (by obtain ⟨_, _, _, e_⟩ := (r33_40_1).form; subst e_; rfl) (by simp) [_, _] rfl (hl' := [_, _]) rfl fun w H => ?_
 refine cz k ?_
 refine rg fun K k => ?_
 refine s1 h rfl (v_fieldAddr rfl underlying35 rfl sizeOf33 rfl rfl) fun a h => ?_
 refine s1 h rfl (l1 H 1 isAgg33) fun a h => ?_
 refine s1 h rfl (v_build bld35 [.int .i64 1, v33_40_1] [.int .i64 1, v33_40_1] rfl (by obtain ⟨_, _, _, e_⟩ := (r33_40_1).form; subst e_; rfl)) fun a h => ?_
 refine z_slice (enc := (Subtype.val (p := fun l : List Value => l.length = 2))) ([⟨[.int .i64 1, v33_40_1], rfl⟩] : List (Cl 2)) h H underlying25 sizeOf35 zeroValue35 rfl (zl := [.int .i64 0, .slice none 0 0]) (by kernel_rfl) (plA_get 1 2) [_] [_, _] rfl rfl rfl rfl rfl fun a v38_42 Z w hsub X H r38_42 h => ?_
 have r20_6_1 := r20_6_1.sub hsub
 have r33_40_1 := r33_40_1.sub hsub
 have r38_42 : RdN Z v38_42 termEnc [(⟨1, z39.v⟩ : T)] := ⟨_, r38_42, ⟨⟨_, rfl, r33_40_1⟩, trivial⟩⟩
 refine sC h H hS rfl (fun y43 f43 => dC call15 (poly_Print_ok f43 (r38_42.hz H.zin) (hG.ext H.out) :)) fun y43 hS w X H a h => ?_
 refine cps 1 h rfl fun a h => ?_
 refine cN k h [3, 5, 6, 8, 9, 29, 30, 31] [_, _, _, _, _, _, _, _] fun h => ?_
 refine sq ?_
 refine rg fun K k => ?_
 refine cps 2 h rfl fun a h => ?_
 refine sB h hS rfl (v_lookup (ev' := Value.bool) mk9 underlying32 zeroValue4 (H.hp.get 0 rfl) rfl (k := y43) rfl) fun z45 e45 hS a h => ?_
 refine cps 1 h rfl fun a h => ?_
 refine st_g h rfl rfl (gF rfl) rfl rfl (fun e0 => v_fieldAddr rfl underlying35 rfl sizeOf2 rfl rfl) fun a h => ?_
 refine st_g h rfl rfl (gF rfl) rfl rfl (fun e0 => v_load1 (eg e0 rfl) isAgg2 (H.hp.get 1 rfl) rfl) fun a h => ?_
 obtain ⟨z46, e46, hS⟩ := bv hS
 refine st_g h rfl rfl (gF rfl) rfl rfl (fun e0 => vB e46 (v_lt (eg e0 rfl) rfl)) fun a h => ?_
 refine sB h hS rfl (v_or rfl rfl) fun z47 e47 hS a h => ?_
 refine cps 1 h rfl fun a h => ?_
 refine st_g h rfl rfl (gF rfl) rfl rfl (fun e0 => v_fieldAddr rfl underlying35 rfl sizeOf2 rfl rfl) fun a h => ?_
 refine st_g h rfl rfl (gF rfl) rfl rfl (fun e0 => v_load1 (eg e0 rfl) isAgg2 (H.hp.get 1 rfl) rfl) fun a h => ?_
 obtain ⟨z48, e48, hS⟩ := bv hS
 refine st_g h rfl rfl (gF rfl) rfl rfl (fun e0 => vB e48 (v_gt (eg e0 rfl) rfl)) fun a h => ?_
 refine sB h hS rfl (v_or rfl rfl) fun z49 e49 hS a h => ?_
 refine cps 1 h rfl fun a h => ?_
 refine st_g h rfl rfl (gF rfl) rfl rfl (fun e0 => v_fieldAddr rfl underlying35 rfl sizeOf33 rfl rfl) fun a h => ?_
 refine st_g h rfl rfl (gF rfl) rfl rfl (fun e0 => v_load1 (eg e0 rfl) isAgg33 (H.hp.get 1 rfl) rfl) fun a h => ?_
 refine st_g h rfl rfl (gF rfl) rfl rfl (fun e0 => v_len underlying33 (eg e0 rfl) (r33_40_1.at H.zin)) fun a h => ?_
 obtain ⟨z50, e50, hS⟩ := bv hS
 refine st_g h rfl rfl (gF rfl) rfl rfl (fun e0 => vB e50 (v_gt (eg e0 rfl) rfl)) fun a h => ?_
 refine sB h hS rfl (v_or rfl rfl) fun z51 e51 hS a h => ?_
 refine cps 1 h rfl fun a h => ?_
 refine st_g h rfl rfl (gF rfl) rfl rfl (fun e0 => v_fieldAddr rfl underlying35 rfl sizeOf33 rfl rfl) fun a h => ?_
 refine st_g h rfl rfl (gF rfl) rfl rfl (fun e0 => v_load1 (eg e0 rfl) isAgg33 (H.hp.get 1 rfl) rfl) fun a h => ?_
 refine st_g h rfl rfl (gF rfl) rfl rfl (fun e0 => v_len underlying33 (eg e0 rfl) (r33_40_1.at H.zin)) fun a h => ?_
 refine st_g h rfl rfl (gF rfl) rfl rfl (fun e0 => v_move rfl) fun a h => ?_
 obtain ⟨z52, e52, hS⟩ := bv hS
 refine st_g h rfl rfl (gF rfl) rfl rfl (fun e0 => vB e52 (v_lt (eg e0 rfl) (eg e0 rfl))) fun a h => ?_
 refine sB h hS rfl (v_or rfl rfl) fun z53 e53 hS a h => ?_
 refine cN k h [3, 5, 8, 9, 29, 30, 31, 65] [_, _, _, _, _, _, _, _] fun h => ?_
 refine cI h hS rfl (fun ec54 hS => ?_) fun ec54 hS => ?_
 refine rg fun K k => ?_
 refine cps 1 h rfl fun a h => ?_
 refine cN k h [2] [_] fun h => ?_
 cases hS
 refine r1 hr h rfl rfl ⟨rfl, H.out⟩
 refine c_skip ?_
 refine rg fun K k => ?_
 refine cps 2 h rfl fun a h => ?_
 obtain ⟨zm0_55, ezm0_55, hS⟩ := bv hS
 refine z_mapUpdate (ev' := Value.bool) mk9 h H 0 rfl underlying32 rfl (k := y43) rfl (v := true) rfl (hl' := [_, _]) rfl fun w H => ?_
 rw [← ezm0_55] at H
 have H : HZ w0 _ _ [_, _] _ := H
 refine cN k h [3, 5, 8, 29, 30, 31] [_, _, _, _, _, _] fun h => ?_
 refine c_lregion ?_
 refine s1 h rfl (v_fieldAddr rfl underlying35 rfl sizeOf33 rfl rfl) fun a h => ?_
 refine s1 h rfl (l1 H 1 isAgg33) fun a h => ?_
 refine s1 h rfl (v_len underlying33 rfl (r33_40_1.at H.zin)) fun a h => ?_
 refine cps 1 h rfl fun a h => ?_
 refine c_lnil ?_
 refine cO h [3, 5, 6, 29, 30, 31] [_, _, _, _, _, _] fun h => ?_
 refine c_lregion ?_
 refine sI h hS rfl (v_addw rfl rfl) fun z56 e56 hS a h => ?_
 refine cps 1 h rfl fun a h => ?_
 refine c_lnil ?_
 exact exL (ex2 ⟨lpN en32 hS, h.to, (H.keepN 1 rfl), r20_6_1⟩)
 exact c_exit (ex2 ⟨hS, h.to, H, r20_6_1⟩)
end Go.Proofs.YtlpfcclecmalhaaDoor
