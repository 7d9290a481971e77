/- Joined texts. -/
import Derived.Test.YtcecjdnkcbfhlaaGreatDoorQS0
import Derived.Test.YtcecjdnkcbfhlaaGreatDoorQpWkPB
set_option linter.unusedSimpArgs false
set_option linter.unusedVariables false
set_option linter.unusedSectionVars false
namespace Go.Proofs.YtcecjdnkcbfhlaaGreatDoor
open Go.Stp Go.RowKit Go.ValP Go.Sp _root_.Go.Proofs.Tryz
set_option maxRecDepth 100000
theorem slices_stableCmpFunc_Term_ok {x0 : List (T)} {x1 : Int} {x2 : T → T → Option (Int)} {res : List (T)} {w0 : World} (hS : slices_stableCmpFunc_Term x0 x1 x2 = some res) {Z : FZ} (hZ : Z.inn w0) {xv0 : Value} {cs0 : List (Cl 2)} (rp0 : w0.ownsRow 0 102 2 xv0 cs0.length (cs0.flatMap Subtype.val)) (el0 : EL termEnc Z cs0 x0) (off0 : ∀ b, xv0.ownBlock = some b → Z b = none) {fi2 : FuncId} {cp2 : Array Value} (hf2 : FnE Tryz.prog fi2 cp2 Z termEnc (fun r : Int => .int .i64 r) x2) {B0 : Bs} (eB : B0 = ⟨w0, xv0.ownBlock.toList⟩) {Zi : FZ} (eZ : Zi = Z) : Calls Tryz.prog 152 [xv0, .int .i64 x1, .func (.func fi2) #[] cp2].toArray w0 (Ret fun v w => v = .tuple #[] ∧ ∃ css : List (Cl 2), w.ownsRow 0 102 2 xv0 css.length (css.flatMap Subtype.val) ∧ EL termEnc Zi css res ∧ ExtB B0 w) := by
 have H : HZ B0 Zi Z [.row 102 2 xv0 cs0.length (cs0.flatMap Subtype.val)] w0 := by rw [eB, eZ]; exact HZ.startLR hZ rp0 off0
 refine enG func152 [0, 1, 2] [_, _, _] fun Q a h hr hn => ?_
 rw [← eZ] at hf2 el0
 clear eB eZ
 have H : HZ B0 _ _ [_] _ := H
 unfold slices_stableCmpFunc_Term at hS
 refine rg fun K k => ?_
 refine cps 1 h rfl fun a h => ?_
 refine cz k ?_
 refine rg fun K k => ?_
 refine cps 3 h rfl fun a h => ?_
 refine cz k ?_
 obtain ⟨J2, eJ2, hS⟩ := bv hS
 refine sbJ (fun a w => ∃ (Z : FZ) (s2 : Int × (List (T))) (cs3 : List (Cl 2)), J2 s2 = some res ∧ Fr 63 [(0, xv0), (1, .int .i64 x1), (2, .func (.func fi2) #[] cp2), (6, .int .i64 20), (7, .int .i64 s2.1)] a ∧ HZ B0 Zi Z [.row 102 2 xv0 cs3.length (cs3.flatMap Subtype.val)] w ∧ EL termEnc Zi cs3 s2.2) ?_ ?_
 rintro a w ⟨Z, s2, cs3, hS, h, H, el0⟩
 subst eJ2
 refine rg fun K k => ?_
 refine cps 4 h rfl fun a h => ?_
 obtain ⟨y4, f4, hS⟩ := bo hS
 refine st2 h rfl rfl rfl (dC call188 (slices_insertionSortCmpFunc_Term_ok f4 H.zini (H.hp.getRow 0 rfl) el0 (H.offZi 0 rfl) hf2 rfl rfl)) ?_
 rintro v_ w ⟨rfl, cs_5, ho_5, el0, X⟩ a h
 obtain ⟨Z, hsub, _, H⟩ := H.lentR 0 rfl ho_5 X (hl' := [_]) rfl
 have H : HZ B0 _ _ [_] _ := H
 refine cN k h [0, 1, 2, 6] [_, _, _, _] fun h => ?_
 refine lb ?_
 obtain ⟨B7, eB7, hS⟩ := bv hS
 refine lpJ (fun mu_ a w => ∃ (Z : FZ) (s7 : Int × (List (T))) (cs9 : List (Cl 2)), loopF B7 mu_ s7 = some res ∧ Fr 63 [(0, xv0), (1, .int .i64 x1), (2, .func (.func fi2) #[] cp2), (6, .int .i64 s7.1)] a ∧ HZ B0 Zi Z [.row 102 2 xv0 cs9.length (cs9.flatMap Subtype.val)] w ∧ EL termEnc Zi cs9 s7.2) KK ⟨_, _, _, hS, h.to, H, el0⟩ ?_
 rintro mu_ a w ⟨Z, s7, cs9, hS, h, H, el0⟩
 obtain ⟨mu_, rfl, n7, en7, hS⟩ := lpX eB7 hS
 refine sq ?_
 refine rg fun K k => ?_
 refine cps 2 h rfl fun a h => ?_
 refine sB h hS rfl (v_lt rfl rfl) fun z11 e11 hS a h => ?_
 refine cz k ?_
 refine cI h hS rfl (fun ec12 hS => ?_) fun ec12 hS => ?_
 refine c_skip ?_
 refine lb ?_
 refine rg fun K k => ?_
 refine cps 1 h rfl fun a h => ?_
 refine sI h hS rfl (v_mulw rfl rfl) fun z14 e14 hS a h => ?_
 refine cps 2 h rfl fun a h => ?_
 refine cN k h [0, 1, 2, 6, 7, 8] [_, _, _, _, _, _] fun h => ?_
 obtain ⟨J16, eJ16, hS⟩ := bv hS
 refine sbJ (fun a w => ∃ (Z : FZ) (s16 : Int × (List (T))) (cs17 : List (Cl 2)), J16 s16 = some res ∧ Fr 63 [(0, xv0), (1, .int .i64 x1), (2, .func (.func fi2) #[] cp2), (6, .int .i64 s7.1), (7, .int .i64 s16.1)] a ∧ HZ B0 Zi Z [.row 102 2 xv0 cs17.length (cs17.flatMap Subtype.val)] w ∧ EL termEnc Zi cs17 s16.2) ?_ ?_
 rintro a w ⟨Z, s16, cs17, hS, h, H, el0⟩
 subst eJ16
 obtain ⟨J19, eJ19, hS⟩ := bv hS
 refine sqJ (fun a w => ∃ (Z : FZ) (s19 : (List (T))) (cs20 : List (Cl 2)), J19 s19 = some res ∧ Fr 63 [(0, xv0), (1, .int .i64 x1), (2, .func (.func fi2) #[] cp2), (6, .int .i64 s7.1)] a ∧ HZ B0 Zi Z [.row 102 2 xv0 cs20.length (cs20.flatMap Subtype.val)] w ∧ EL termEnc Zi cs20 s19) ?_ ?_
 rintro a w ⟨Z, s19, cs20, hS, h, H, el0⟩
 subst eJ19
 refine c_lregion ?_
 refine cps 1 h rfl fun a h => ?_
 refine sI h hS rfl (v_mulw rfl rfl) fun z21 e21 hS a h => ?_
 refine cps 1 h rfl fun a h => ?_
 refine c_lnil ?_
 exact exL (ex3 ⟨lpN en7 hS, h.to, H, el0⟩)
 refine rg fun K k => ?_
 refine cps 2 h rfl fun a h => ?_
 refine sI h hS rfl (v_addw rfl rfl) fun z22 e22 hS a h => ?_
 refine cps 1 h rfl fun a h => ?_
 refine cz k ?_
 refine rg fun K k => ?_
 refine cps 2 h rfl fun a h => ?_
 refine sB h hS rfl (v_lt rfl rfl) fun z23 e23 hS a h => ?_
 refine cN k h [0, 1, 2, 6, 7, 9, 54] [_, _, _, _, _, _, _] fun h => ?_
 refine cI h hS rfl (fun ec24 hS => ?_) fun ec24 hS => ?_
 refine c_lregion ?_
 refine cps 5 h rfl fun a h => ?_
 obtain ⟨y25, f25, hS⟩ := bo hS
 refine st2 h rfl rfl rfl (dC call189 (slices_symMergeCmpFunc_Term_ok _ f25 H.zini (H.hp.getRow 0 rfl) el0 (H.offZi 0 rfl) hf2 rfl rfl)) ?_
 rintro v_ w ⟨rfl, cs_26, ho_26, el0, X⟩ a h
 obtain ⟨Z, hsub, _, H⟩ := H.lentR 0 rfl ho_26 X (hl' := [_]) rfl
 have H : HZ B0 _ _ [_] _ := H
 refine c_lnil ?_
 exact ex3 ⟨hS, h.to, H, el0⟩
 exact c_skip (ex3 ⟨hS, h.to, H, el0⟩)
 obtain ⟨B27, eB27, hS⟩ := bv hS
 refine lpJ (fun mu_ a w => ∃ (Z : FZ) (s27 : Int × Int × (List (T))) (cs29 : List (Cl 2)), loopF B27 mu_ s27 = some res ∧ Fr 63 [(0, xv0), (1, .int .i64 x1), (2, .func (.func fi2) #[] cp2), (6, .int .i64 s7.1), (7, .int .i64 s27.1), (8, .int .i64 s27.2.1)] a ∧ HZ B0 Zi Z [.row 102 2 xv0 cs29.length (cs29.flatMap Subtype.val)] w ∧ EL termEnc Zi cs29 s27.2.2) KK ⟨_, _, _, hS, h.to, H, el0⟩ ?_
 rintro mu_ a w ⟨Z, s27, cs29, hS, h, H, el0⟩
 obtain ⟨mu_, rfl, n27, en27, hS⟩ := lpX eB27 hS
 refine sq ?_
 refine rg fun K k => ?_
 refine cps 2 h rfl fun a h => ?_
 refine sB h hS rfl (v_le rfl rfl) fun z31 e31 hS a h => ?_
 refine cz k ?_
 refine cI h hS rfl (fun ec32 hS => ?_) fun ec32 hS => ?_
 refine c_skip ?_
 refine lb ?_
 refine rg fun K k => ?_
 refine cps 4 h rfl fun a h => ?_
 refine sI h hS rfl (v_addw rfl rfl) fun z34 e34 hS a h => ?_
 refine cps 2 h rfl fun a h => ?_
 obtain ⟨y35, f35, hS⟩ := bo hS
 refine st2 h rfl rfl rfl (dC call189 (slices_symMergeCmpFunc_Term_ok _ f35 H.zini (H.hp.getRow 0 rfl) el0 (H.offZi 0 rfl) hf2 rfl rfl)) ?_
 rintro v_ w ⟨rfl, cs_36, ho_36, el0, X⟩ a h
 obtain ⟨Z, hsub, _, H⟩ := H.lentR 0 rfl ho_36 X (hl' := [_]) rfl
 have H : HZ B0 _ _ [_] _ := H
 refine cN k h [0, 1, 2, 6, 8] [_, _, _, _, _] fun h => ?_
 refine rg fun K k => ?_
 refine cps 2 h rfl fun a h => ?_
 refine cz k ?_
 refine c_lregion ?_
 refine cps 2 h rfl fun a h => ?_
 refine sI h hS rfl (v_mulw rfl rfl) fun z37 e37 hS a h => ?_
 refine sI h hS rfl (v_addw rfl rfl) fun z38 e38 hS a h => ?_
 refine cps 1 h rfl fun a h => ?_
 refine c_lnil ?_
 exact exL (ex3 ⟨lpN en27 hS, h.to, H, el0⟩)
 exact c_exit (ex3 ⟨hS, h.to, H, el0⟩)
 refine c_exit ?_
 cases hS
 exact hn _ _ (out0 h rfl ⟨rfl, _, H.hp.getRow 0 rfl, el0, H.outB⟩)
 obtain ⟨B39, eB39, hS⟩ := bv hS
 refine lpJ (fun mu_ a w => ∃ (Z : FZ) (s39 : Int × Int × (List (T))) (cs41 : List (Cl 2)), loopF B39 mu_ s39 = some res ∧ Fr 63 [(0, xv0), (1, .int .i64 x1), (2, .func (.func fi2) #[] cp2), (6, .int .i64 20), (7, .int .i64 s39.1), (8, .int .i64 s39.2.1)] a ∧ HZ B0 Zi Z [.row 102 2 xv0 cs41.length (cs41.flatMap Subtype.val)] w ∧ EL termEnc Zi cs41 s39.2.2) KK ⟨_, _, _, hS, h.to, H, el0⟩ ?_
 rintro mu_ a w ⟨Z, s39, cs41, hS, h, H, el0⟩
 obtain ⟨mu_, rfl, n39, en39, hS⟩ := lpX eB39 hS
 refine sq ?_
 refine rg fun K k => ?_
 refine cps 2 h rfl fun a h => ?_
 refine sB h hS rfl (v_le rfl rfl) fun z43 e43 hS a h => ?_
 refine cz k ?_
 refine cI h hS rfl (fun ec44 hS => ?_) fun ec44 hS => ?_
 refine c_skip ?_
 refine lb ?_
 refine rg fun K k => ?_
 refine cps 4 h rfl fun a h => ?_
 obtain ⟨y46, f46, hS⟩ := bo hS
 refine st2 h rfl rfl rfl (dC call188 (slices_insertionSortCmpFunc_Term_ok f46 H.zini (H.hp.getRow 0 rfl) el0 (H.offZi 0 rfl) hf2 rfl rfl)) ?_
 rintro v_ w ⟨rfl, cs_47, ho_47, el0, X⟩ a h
 obtain ⟨Z, hsub, _, H⟩ := H.lentR 0 rfl ho_47 X (hl' := [_]) rfl
 have H : HZ B0 _ _ [_] _ := H
 refine cN k h [0, 1, 2, 6, 8] [_, _, _, _, _] fun h => ?_
 refine rg fun K k => ?_
 refine cps 2 h rfl fun a h => ?_
 refine cz k ?_
 refine c_lregion ?_
 refine cps 2 h rfl fun a h => ?_
 refine sI h hS rfl (v_addw rfl rfl) fun z48 e48 hS a h => ?_
 refine cps 1 h rfl fun a h => ?_
 refine c_lnil ?_
 exact exL (ex3 ⟨lpN en39 hS, h.to, H, el0⟩)
 exact c_exit (ex3 ⟨hS, h.to, H, el0⟩)
theorem slices_SortStableFunc_Term_ok {x0 : List (T)} {x1 : T → T → Option (Int)} {res : List (T)} {w0 : World} (hS : slices_SortStableFunc_Term x0 x1 = some res) {Z : FZ} (hZ : Z.inn w0) {xv0 : Value} {cs0 : List (Cl 2)} (rp0 : w0.ownsRow 0 102 2 xv0 cs0.length (cs0.flatMap Subtype.val)) (el0 : EL termEnc Z cs0 x0) (off0 : ∀ b, xv0.ownBlock = some b → Z b = none) {fi1 : FuncId} {cp1 : Array Value} (hf1 : FnE Tryz.prog fi1 cp1 Z termEnc (fun r : Int => .int .i64 r) x1) {B0 : Bs} (eB : B0 = ⟨w0, xv0.ownBlock.toList⟩) {Zi : FZ} (eZ : Zi = Z) : Calls Tryz.prog 107 [xv0, .func (.func fi1) #[] cp1].toArray w0 (Ret fun v w => v = .tuple #[] ∧ ∃ css : List (Cl 2), w.ownsRow 0 102 2 xv0 css.length (css.flatMap Subtype.val) ∧ EL termEnc Zi css res ∧ ExtB B0 w) := by
 have H : HZ B0 Zi Z [.row 102 2 xv0 cs0.length (cs0.flatMap Subtype.val)] w0 := by rw [eB, eZ]; exact HZ.startLR hZ rp0 off0
 refine enG func107 [0, 1] [_, _] fun Q a h hr hn => ?_
 rw [← eZ] at hf1 el0
 clear eB eZ
 have H : HZ B0 _ _ [_] _ := H
 unfold slices_SortStableFunc_Term at hS
 refine c_lregion ?_
 refine cps 2 h rfl fun a h => ?_
 refine s1 h rfl (v_lenN underlying41 rfl (H.rowN (i := 0) rfl (el0.sub H.sub)) (hz_inn _)) fun a h => ?_
 refine cps 1 h rfl fun a h => ?_
 obtain ⟨y1, f1, hS⟩ := bo hS
 refine st2 h rfl rfl rfl (dC call152 (slices_stableCmpFunc_Term_ok f1 H.zini (H.hp.getRow 0 rfl) el0 (H.offZi 0 rfl) hf1 rfl rfl)) ?_
 rintro v_ w ⟨rfl, cs_2, ho_2, el0, X⟩ a h
 obtain ⟨Z, hsub, _, H⟩ := H.lentR 0 rfl ho_2 X (hl' := [_]) rfl
 have H : HZ B0 _ _ [_] _ := H
 refine c_lnil ?_
 cases hS
 exact hn _ _ (out0 h rfl ⟨rfl, _, H.hp.getRow 0 rfl, el0, H.outB⟩)
theorem slices_insertionSortCmpFunc_Cell_ok {x0 : List (C)} {x1 : Int} {x2 : Int} {x3 : C → C → Option (Int)} {res : List (C)} {w0 : World} (hS : slices_insertionSortCmpFunc_Cell x0 x1 x2 x3 = some res) {Z : FZ} (hZ : Z.inn w0) {xv0 : Value} {cs0 : List (Cl 3)} (rp0 : w0.ownsRow 0 28 3 xv0 cs0.length (cs0.flatMap Subtype.val)) (el0 : EL cellEnc Z cs0 x0) (off0 : ∀ b, xv0.ownBlock = some b → Z b = none) {fi3 : FuncId} {cp3 : Array Value} (hf3 : FnE Tryz.prog fi3 cp3 Z cellEnc (fun r : Int => .int .i64 r) x3) {B0 : Bs} (eB : B0 = ⟨w0, xv0.ownBlock.toList⟩) {Zi : FZ} (eZ : Zi = Z) : Calls Tryz.prog 124 [xv0, .int .i64 x1, .int .i64 x2, .func (.func fi3) #[] cp3].toArray w0 (Ret fun v w => v = .tuple #[] ∧ ∃ css : List (Cl 3), w.ownsRow 0 28 3 xv0 css.length (css.flatMap Subtype.val) ∧ EL cellEnc Zi css res ∧ ExtB B0 w) := by
 have H : HZ B0 Zi Z [.row 28 3 xv0 cs0.length (cs0.flatMap Subtype.val)] w0 := by rw [eB, eZ]; exact HZ.startLR hZ rp0 off0
 refine enG func124 [0, 1, 2, 3] [_, _, _, _] fun Q a h hr hn => ?_
 rw [← eZ] at hf3 el0
 clear eB eZ
 have H : HZ B0 _ _ [_] _ := H
 unfold slices_insertionSortCmpFunc_Cell at hS
 refine rg fun K k => ?_
 refine cps 1 h rfl fun a h => ?_
 refine sI h hS rfl (v_addw rfl rfl) fun z1 e1 hS a h => ?_
 refine cps 1 h rfl fun a h => ?_
 refine cz k ?_
 refine lb ?_
 obtain ⟨B3, eB3, hS⟩ := bv hS
 refine lpJ (fun mu_ a w => ∃ (Z : FZ) (s3 : Int × (List (C))) (cs5 : List (Cl 3)), loopF B3 mu_ s3 = some res ∧ Fr 53 [(0, xv0), (1, .int .i64 x1), (2, .int .i64 x2), (3, .func (.func fi3) #[] cp3), (8, .int .i64 s3.1)] a ∧ HZ B0 Zi Z [.row 28 3 xv0 cs5.length (cs5.flatMap Subtype.val)] w ∧ EL cellEnc Zi cs5 s3.2) KK ⟨_, _, _, hS, h.to, H, el0⟩ ?_
 rintro mu_ a w ⟨Z, s3, cs5, hS, h, H, el0⟩
 obtain ⟨mu_, rfl, n3, en3, hS⟩ := lpX eB3 hS
 refine sq ?_
 refine rg fun K k => ?_
 refine cps 2 h rfl fun a h => ?_
 refine sB h hS rfl (v_lt rfl rfl) fun z7 e7 hS a h => ?_
 refine cz k ?_
 refine cI h hS rfl (fun ec8 hS => ?_) fun ec8 hS => ?_
 refine c_skip ?_
 obtain ⟨J10, eJ10, hS⟩ := bv hS
 refine sbJ (fun a w => ∃ (Z : FZ) (s10 : (List (C))) (cs11 : List (Cl 3)), J10 s10 = some res ∧ Fr 53 [(0, xv0), (1, .int .i64 x1), (2, .int .i64 x2), (3, .func (.func fi3) #[] cp3), (8, .int .i64 s3.1)] a ∧ HZ B0 Zi Z [.row 28 3 xv0 cs11.length (cs11.flatMap Subtype.val)] w ∧ EL cellEnc Zi cs11 s10) ?_ ?_
 rintro a w ⟨Z, s10, cs11, hS, h, H, el0⟩
 subst eJ10
 refine c_lregion ?_
 refine cps 1 h rfl fun a h => ?_
 refine sI h hS rfl (v_addw rfl rfl) fun z12 e12 hS a h => ?_
 refine cps 1 h rfl fun a h => ?_
 refine c_lnil ?_
 exact exL (ex3 ⟨lpN en3 hS, h.to, H, el0⟩)
 refine rg fun K k => ?_
 refine cps 2 h rfl fun a h => ?_
 refine cN k h [0, 1, 2, 3, 8, 9] [_, _, _, _, _, _] fun h => ?_
 refine lb ?_
 obtain ⟨B14, eB14, hS⟩ := bv hS
 refine lpJ (fun mu_ a w => ∃ (Z : FZ) (s14 : Int × (List (C))) (cs16 : List (Cl 3)), loopF B14 mu_ s14 = some res ∧ Fr 53 [(0, xv0), (1, .int .i64 x1), (2, .int .i64 x2), (3, .func (.func fi3) #[] cp3), (8, .int .i64 s3.1), (9, .int .i64 s14.1)] a ∧ HZ B0 Zi Z [.row 28 3 xv0 cs16.length (cs16.flatMap Subtype.val)] w ∧ EL cellEnc Zi cs16 s14.2) KK ⟨_, _, _, hS, h.to, H, el0⟩ ?_
 rintro mu_ a w ⟨Z, s14, cs16, hS, h, H, el0⟩
 obtain ⟨mu_, rfl, n14, en14, hS⟩ := lpX eB14 hS
 refine sq ?_
 refine fl h ?_
 refine fcps 2 rfl ?_
 refine fB hS rfl (fun w X => v_gt rfl rfl) fun z18 e18 hS => ?_
 refine fcps 1 rfl ?_
 refine f_g [3, 21] rfl rfl rfl (gT rfl) rfl rfl (fun e0 w X => v_move rfl) ?_
 refine f_g [0, 21] rfl rfl rfl (gT rfl) rfl rfl (fun e0 w X => v_move rfl) ?_
 refine f_g [9, 21] rfl rfl rfl (gT rfl) rfl rfl (fun e0 w X => v_move rfl) ?_
 obtain ⟨c19, hS⟩ := ck hS
 obtain ⟨z20, e20, hS⟩ := bv hS
 have q_21 := el0.gel ⟨_, cellEnc_dflt⟩ s14.1
 rw [← e20] at q_21
 obtain ⟨cl_21, hc_21, hcs_21⟩ := q_21
 refine f_gR (R := (fun w' v' => At w' v' (fun _ : Unit => [.int .i64 z20.s, .int .i64 z20.c, .int .i64 z20.r]) () 0)) (c := z18) [23, 24, 21] rfl rfl rfl rfl rfl at_stab (fun w X => ?_) ?_
 skip
 exact ⟨(gT rfl), fun e0 => have H := H.ext X; d_idxC underlying49 sizeOf28 (eg e0 rfl) (eg e0 rfl) (H.getRow (i := 0) rfl) (c19 e0).1 (hc_21 (c19 e0)) hcs_21⟩
 refine f_gE (V := .agg #[.int .i64 z20.s, .int .i64 z20.c, .int .i64 z20.r]) (c := z18) [25, 21] rfl rfl rfl rfl rfl (fun w X => ?_) ?_
 intro v25 h25
 exact ⟨(gT rfl), fun e0 => (v_loadAtA [_, _, _] rfl (h25 e0) isAgg28 sizeOf28 rfl rfl).doesF⟩
 refine f_g [0, 21] rfl rfl rfl (gT rfl) rfl rfl (fun e0 w X => v_move rfl) ?_
 refine f_g [9, 21] rfl rfl rfl (gT rfl) rfl rfl (fun e0 w X => v_move rfl) ?_
 obtain ⟨z22, e22, hS⟩ := bv hS
 refine f_g [28, 21] rfl rfl rfl (gT rfl) rfl rfl (fun e0 w X => vI e22 (v_subw (eg e0 rfl) rfl)) ?_
 obtain ⟨c23, hS⟩ := ck hS
 obtain ⟨z24, e24, hS⟩ := bv hS
 have q_25 := el0.gel ⟨_, cellEnc_dflt⟩ z22
 rw [← e24] at q_25
 obtain ⟨cl_25, hc_25, hcs_25⟩ := q_25
 refine f_gR (R := (fun w' v' => At w' v' (fun _ : Unit => [.int .i64 z24.s, .int .i64 z24.c, .int .i64 z24.r]) () 0)) (c := z18) [27, 29, 21] rfl rfl rfl rfl rfl at_stab (fun w X => ?_) ?_
 skip
 exact ⟨(gT rfl), fun e0 => have H := H.ext X; d_idxC underlying49 sizeOf28 (eg e0 rfl) (eg e0 rfl) (H.getRow (i := 0) rfl) (c23 e0).1 (hc_25 (c23 e0)) hcs_25⟩
 refine f_gE (V := .agg #[.int .i64 z24.s, .int .i64 z24.c, .int .i64 z24.r]) (c := z18) [30, 21] rfl rfl rfl rfl rfl (fun w X => ?_) ?_
 intro v30 h30
 exact ⟨(gT rfl), fun e0 => (v_loadAtA [_, _, _] rfl (h30 e0) isAgg28 sizeOf28 rfl rfl).doesF⟩
 obtain ⟨y26, f26, hS⟩ := bo hS
 refine f_gd (V := .int .i64 y26) [22, 26, 31, 21] rfl rfl rfl (gT rfl) rfl rfl (fun e0 w X => have H := H.ext X; d_fnE hf3 H.zini (eg e0 rfl) (ca := [.int .i64 z20.s, .int .i64 z20.c, .int .i64 z20.r]) (cb := [.int .i64 z24.s, .int .i64 z24.c, .int .i64 z24.r]) (evs_c (eg e0 rfl) (evs_c (eg e0 rfl) evs_n)) rfl rfl (ifT e0 f26)) ?_
 obtain ⟨z27, e27, hS⟩ := bv hS
 refine f_g [32, 21] rfl rfl rfl (gT rfl) rfl rfl (fun e0 w X => vB e27 (v_lt (eg e0 rfl) rfl)) ?_
 refine fB hS rfl (fun w X => v_and rfl rfl) fun z28 e28 hS => ?_
 refine fE [0, 1, 2, 3, 8, 9, 34] [_, _, _, _, _, _, _] H fun a w X H h => ?_
 refine cI h hS rfl (fun ec29 hS => ?_) fun ec29 hS => ?_
 refine c_skip ?_
 refine sb ?_
 obtain ⟨z31, e31, hS⟩ := bv hS
 obtain ⟨c33, hS⟩ := ck hS
 obtain ⟨c34, hS⟩ := ck hS
 obtain ⟨zrow_35, ezrow_35, hS⟩ := bv hS
 have ln_32 : cs16.length = s14.2.length := el0.len
 obtain ⟨gb_32, cap_32, hsv_32⟩ := H.rowPtr (i := 0) rfl (by omega)
 obtain ⟨cI_32, hcI_32, rI_32⟩ := el0.get (gel_some c34)
 obtain ⟨cJ_32, hcJ_32, rJ_32⟩ := el0.get (gel_some c33)
 obtain ⟨cs_32, hb_32, hcl_32, hct_32⟩ := H.openN (i := 0) rfl hsv_32 (by omega)
 have hpI_32 := open_at hct_32 hcI_32
 have hpJ_32 := open_at hct_32 hcJ_32
 have hlI_32 : Int.toNat s14.1 < cs16.length := by omega
 have hlJ_32 : Int.toNat z31 < cs16.length := by omega
 have p32 := put_take (c := cJ_32) hcl_32 hct_32 hlI_32
 refine c_lany (by kernel_rfl) ?_
 have H := H.ext (Ext.drew w)
 have hb_32 : (w.drew).heap[gb_32]? = some (.cells cs_32.toArray 28 (0, 0)) := hb_32
 have hX : ({ w with drawn := w.drawn + 1 } : World) = w.drew := rfl
 rw [hX]
 clear hX
 generalize w.drew = w at *
 refine a_hoist (i := 0) h rfl rfl rfl rfl (fun w => v_move rfl) (by kernel_rfl) rfl fun a h => ?_
 refine a_hoist (i := 1) h rfl rfl rfl rfl (fun w => v_move rfl) (by kernel_rfl) rfl fun a h => ?_
 refine a_hoist (i := 2) h rfl rfl rfl rfl (fun w => v_move rfl) (by kernel_rfl) rfl fun a h => ?_
 refine a_hoist (i := 3) h rfl rfl rfl rfl (fun w => v_move rfl) (by kernel_rfl) rfl fun a h => ?_
 refine a_hoist (i := 4) h rfl rfl rfl rfl (fun w => vI e31 (v_subw rfl rfl)) (by kernel_rfl) rfl fun a h => ?_
 refine a_hoist (i := 5) h rfl rfl rfl rfl (fun w => v_move rfl) (by kernel_rfl) rfl fun a h => ?_
 refine a_hoist (i := 6) h rfl rfl rfl rfl (fun w => v_move rfl) (by kernel_rfl) rfl fun a h => ?_
 refine a_hoist (i := 7) h rfl rfl rfl rfl (fun w => vI e31 (v_subw rfl rfl)) (by kernel_rfl) rfl fun a h => ?_
 refine a_hoist (i := 8) h rfl rfl rfl rfl (fun w => v_idxRow hsv_32 underlying49 sizeOf28 rfl rfl (by rw [ln_32]; exact c33)) (by kernel_rfl) rfl fun a h => ?_
 refine a_hoist (i := 10) h rfl rfl rfl rfl (fun w => v_move rfl) (by kernel_rfl) rfl fun a h => ?_
 refine a_hoist (i := 11) h rfl rfl rfl rfl (fun w => v_move rfl) (by kernel_rfl) rfl fun a h => ?_
 refine a_hoist (i := 12) h rfl rfl rfl rfl (fun w => v_idxRow hsv_32 underlying49 sizeOf28 rfl rfl (by rw [ln_32]; exact c34)) (by kernel_rfl) rfl fun a h => ?_
 refine a_two (i := 9) (j := 13) (by kernel_rfl) rfl rfl (R1.val h rfl (v_loadA cJ_32.1 rfl isAgg28 sizeOf28 hb_32 hpJ_32 cJ_32.2)) (R1.val h rfl (v_loadA cI_32.1 rfl isAgg28 sizeOf28 hb_32 hpI_32 cI_32.2)) ?_ ?_
 have h := h.put (d := 46) rfl (.agg cJ_32.1.toArray)
 refine a_one (i := 13) (by kernel_rfl) rfl (R1.val h rfl (v_loadA cI_32.1 rfl isAgg28 sizeOf28 hb_32 hpI_32 cI_32.2)) rfl ?_
 have h := h.put (d := 50) rfl (.agg cI_32.1.toArray)
 refine a_one (i := 14) (by kernel_rfl) rfl (R1.val h rfl (v_idxRow hsv_32 underlying49 sizeOf28 rfl rfl (by rw [ln_32]; exact c34))) rfl ?_
 have h := h.put (d := 51) rfl (.pointer (some ⟨gb_32, Int.toNat s14.1 * 3, none⟩))
 obtain ⟨w1, hR1, hb1, a1, a2, a3, a4, a5⟩ := r_storeK (ops := _) (P := Tryz.prog) (x := .tmp 51) (y := .tmp 46) (vs := cJ_32.1) h rfl rfl rfl cJ_32.2 ((cellEnc).one rJ_32) sizeOf28 hb_32 (row_fit hlI_32 hcl_32)
 refine a_one (i := 15) (by kernel_rfl) rfl hR1 rfl ?_
 refine a_one (i := 16) (by kernel_rfl) rfl (R1.val h rfl (v_idxRow hsv_32 underlying49 sizeOf28 rfl rfl (by rw [ln_32]; exact c33))) rfl ?_
 have h := h.put (d := 52) rfl (.pointer (some ⟨gb_32, Int.toNat z31 * 3, none⟩))
 obtain ⟨w2, hR2, hb2, b1, b2, b3, b4, b5⟩ := r_storeK (ops := _) (P := Tryz.prog) (x := .tmp 52) (y := .tmp 50) (vs := cI_32.1) h rfl rfl rfl cI_32.2 ((cellEnc).one rI_32) sizeOf28 hb1 (Nat.le_trans (row_fit hlJ_32 hcl_32) (Nat.le_of_eq p32.2.1.symm))
 refine a_one (i := 17) (by kernel_rfl) rfl hR2 rfl ?_
 refine a_end (by kernel_rfl) ?_
 have H := H.swapN (i := 0) (p := Int.toNat s14.1) (q := Int.toNat z31) rfl hsv_32 hlI_32 hlJ_32 hb_32 hcl_32 hct_32 hb2 (b1.trans a1) (b2.trans a2) (b3.trans a3) (b4.trans a4) (fun c hc => (b5 c hc).trans (a5 c hc)) (hl' := [_]) rfl
 have el0 := EL.set rI_32 (Int.toNat z31) (EL.set rJ_32 (Int.toNat s14.1) el0)
 rw [← ezrow_35] at el0
 have h := h.only [0, 1, 2, 3, 8, 9] (l' := [_, _, _, _, _, _]) rfl
 have H : HZ B0 _ _ [_] _ := H
 generalize w2 = w at h H
 refine c_lregion ?_
 refine cps 1 h rfl fun a h => ?_
 refine sI h hS rfl (v_subw rfl rfl) fun z36 e36 hS a h => ?_
 refine cps 1 h rfl fun a h => ?_
 refine c_lnil ?_
 exact exL (ex3 ⟨lpN en14 hS, h.to, H, el0⟩)
 have h := h.put (d := 50) rfl (.agg cI_32.1.toArray)
 refine a_one (i := 9) (by kernel_rfl) rfl (R1.val h rfl (v_loadA cJ_32.1 rfl isAgg28 sizeOf28 hb_32 hpJ_32 cJ_32.2)) rfl ?_
 have h := h.put (d := 46) rfl (.agg cJ_32.1.toArray)
 refine a_one (i := 14) (by kernel_rfl) rfl (R1.val h rfl (v_idxRow hsv_32 underlying49 sizeOf28 rfl rfl (by rw [ln_32]; exact c34))) rfl ?_
 have h := h.put (d := 51) rfl (.pointer (some ⟨gb_32, Int.toNat s14.1 * 3, none⟩))
 obtain ⟨w1, hR1, hb1, a1, a2, a3, a4, a5⟩ := r_storeK (ops := _) (P := Tryz.prog) (x := .tmp 51) (y := .tmp 46) (vs := cJ_32.1) h rfl rfl rfl cJ_32.2 ((cellEnc).one rJ_32) sizeOf28 hb_32 (row_fit hlI_32 hcl_32)
 refine a_one (i := 15) (by kernel_rfl) rfl hR1 rfl ?_
 refine a_one (i := 16) (by kernel_rfl) rfl (R1.val h rfl (v_idxRow hsv_32 underlying49 sizeOf28 rfl rfl (by rw [ln_32]; exact c33))) rfl ?_
 have h := h.put (d := 52) rfl (.pointer (some ⟨gb_32, Int.toNat z31 * 3, none⟩))
 obtain ⟨w2, hR2, hb2, b1, b2, b3, b4, b5⟩ := r_storeK (ops := _) (P := Tryz.prog) (x := .tmp 52) (y := .tmp 50) (vs := cI_32.1) h rfl rfl rfl cI_32.2 ((cellEnc).one rI_32) sizeOf28 hb1 (Nat.le_trans (row_fit hlJ_32 hcl_32) (Nat.le_of_eq p32.2.1.symm))
 refine a_one (i := 17) (by kernel_rfl) rfl hR2 rfl ?_
 refine a_end (by kernel_rfl) ?_
 have H := H.swapN (i := 0) (p := Int.toNat s14.1) (q := Int.toNat z31) rfl hsv_32 hlI_32 hlJ_32 hb_32 hcl_32 hct_32 hb2 (b1.trans a1) (b2.trans a2) (b3.trans a3) (b4.trans a4) (fun c hc => (b5 c hc).trans (a5 c hc)) (hl' := [_]) rfl
 have el0 := EL.set rI_32 (Int.toNat z31) (EL.set rJ_32 (Int.toNat s14.1) el0)
 rw [← ezrow_35] at el0
 have h := h.only [0, 1, 2, 3, 8, 9] (l' := [_, _, _, _, _, _]) rfl
 have H : HZ B0 _ _ [_] _ := H
 generalize w2 = w at h H
 refine c_lregion ?_
 refine cps 1 h rfl fun a h => ?_
 refine sI h hS rfl (v_subw rfl rfl) fun z37 e37 hS a h => ?_
 refine cps 1 h rfl fun a h => ?_
 refine c_lnil ?_
 exact exL (ex3 ⟨lpN en14 hS, h.to, H, el0⟩)
 exact c_exit (ex3 ⟨hS, h.to, H, el0⟩)
 refine c_exit ?_
 cases hS
 exact hn _ _ (out0 h rfl ⟨rfl, _, H.hp.getRow 0 rfl, el0, H.outB⟩)
theorem slices_pdqsortCmpFunc_Cell_ok {x0 : List (C)} {x1 : Int} {x2 : Int} {x3 : Int} {x4 : C → C → Option (Int)} {res : List (C)} {w0 : World} (hS : slices_pdqsortCmpFunc_Cell x0 x1 x2 x3 x4 = some res) {Z : FZ} (hZ : Z.inn w0) {xv0 : Value} {cs0 : List (Cl 3)} (rp0 : w0.ownsRow 0 28 3 xv0 cs0.length (cs0.flatMap Subtype.val)) (el0 : EL cellEnc Z cs0 x0) (off0 : ∀ b, xv0.ownBlock = some b → Z b = none) {fi4 : FuncId} {cp4 : Array Value} (hf4 : FnE Tryz.prog fi4 cp4 Z cellEnc (fun r : Int => .int .i64 r) x4) {B0 : Bs} (eB : B0 = ⟨w0, xv0.ownBlock.toList⟩) {Zi : FZ} (eZ : Zi = Z) : Calls Tryz.prog 91 [xv0, .int .i64 x1, .int .i64 x2, .int .i64 x3, .func (.func fi4) #[] cp4].toArray w0 (Ret fun v w => v = .tuple #[] ∧ ∃ css : List (Cl 3), w.ownsRow 0 28 3 xv0 css.length (css.flatMap Subtype.val) ∧ EL cellEnc Zi css res ∧ ExtB B0 w) := by
 have H : HZ B0 Zi Z [.row 28 3 xv0 cs0.length (cs0.flatMap Subtype.val)] w0 := by rw [eB, eZ]; exact HZ.startLR hZ rp0 off0
 refine enG func91 [0, 1, 2, 3, 4] [_, _, _, _, _] fun Q a h hr hn => ?_
 rw [← eZ] at hf4 el0
 clear eB eZ
 have H : HZ B0 _ _ [_] _ := H
 unfold slices_pdqsortCmpFunc_Cell at hS
 refine rg fun K k => ?_
 refine cps 1 h rfl fun a h => ?_
 refine cz k ?_
 refine rg fun K k => ?_
 refine cps 1 h rfl fun a h => ?_
 refine cz k ?_
 refine lb ?_
 obtain ⟨B2, eB2, hS⟩ := bv hS
 refine lpJ (fun mu_ a w => ∃ (Z : FZ) (s2 : Int × Int × Int × Bool × Bool × (List (C))) (cs4 : List (Cl 3)), loopF B2 mu_ s2 = some res ∧ Fr 148 [(0, xv0), (1, .int .i64 s2.1), (2, .int .i64 s2.2.1), (3, .int .i64 s2.2.2.1), (4, .func (.func fi4) #[] cp4), (10, .bool s2.2.2.2.1), (11, .bool s2.2.2.2.2.1)] a ∧ HZ B0 Zi Z [.row 28 3 xv0 cs4.length (cs4.flatMap Subtype.val)] w ∧ EL cellEnc Zi cs4 s2.2.2.2.2.2) KK ⟨_, _, _, hS, h.to, H, el0⟩ ?_
 rintro mu_ a w ⟨Z, s2, cs4, hS, h, H, el0⟩
 obtain ⟨mu_, rfl, n2, en2, hS⟩ := lpX eB2 hS
 refine lb ?_
 refine rg fun K k => ?_
 refine cps 2 h rfl fun a h => ?_
 refine sI h hS rfl (v_subw rfl rfl) fun z6 e6 hS a h => ?_
 refine cps 1 h rfl fun a h => ?_
 refine cz k ?_
 refine sq ?_
 refine rg fun K k => ?_
 refine cps 1 h rfl fun a h => ?_
 refine sB h hS rfl (v_le rfl rfl) fun z8 e8 hS a h => ?_
 refine cN k h [0, 1, 2, 3, 4, 10, 11, 12, 25] [_, _, _, _, _, _, _, _, _] fun h => ?_
 refine cI h hS rfl (fun ec9 hS => ?_) fun ec9 hS => ?_
 refine rg fun K k => ?_
 refine cps 4 h rfl fun a h => ?_
 obtain ⟨y10, f10, hS⟩ := bo hS
 refine st2 h rfl rfl rfl (dC call124 (slices_insertionSortCmpFunc_Cell_ok f10 H.zini (H.hp.getRow 0 rfl) el0 (H.offZi 0 rfl) hf4 rfl rfl)) ?_
 rintro v_ w ⟨rfl, cs_11, ho_11, el0, X⟩ a h
 obtain ⟨Z, hsub, _, H⟩ := H.lentR 0 rfl ho_11 X (hl' := [_]) rfl
 have H : HZ B0 _ _ [_] _ := H
 refine cN k h [] [] fun h => ?_
 cases hS
 refine r0 hr h rfl ⟨rfl, _, H.hp.getRow 0 rfl, el0, H.outB⟩
 refine c_skip ?_
 refine sq ?_
 refine rg fun K k => ?_
 refine cps 1 h rfl fun a h => ?_
 refine sB h hS rfl (v_eq rfl rfl) fun z13 e13 hS a h => ?_
 refine cz k ?_
 refine cI h hS rfl (fun ec14 hS => ?_) fun ec14 hS => ?_
 exact nomatch hS
 exact nomatch hS
theorem slices_SortFunc_Cell_ok {x0 : List (C)} {x1 : C → C → Option (Int)} {res : List (C)} {w0 : World} (hS : slices_SortFunc_Cell x0 x1 = some res) {Z : FZ} (hZ : Z.inn w0) {xv0 : Value} {cs0 : List (Cl 3)} (rp0 : w0.ownsRow 0 28 3 xv0 cs0.length (cs0.flatMap Subtype.val)) (el0 : EL cellEnc Z cs0 x0) (off0 : ∀ b, xv0.ownBlock = some b → Z b = none) {fi1 : FuncId} {cp1 : Array Value} (hf1 : FnE Tryz.prog fi1 cp1 Z cellEnc (fun r : Int => .int .i64 r) x1) {B0 : Bs} (eB : B0 = ⟨w0, xv0.ownBlock.toList⟩) {Zi : FZ} (eZ : Zi = Z) : Calls Tryz.prog 59 [xv0, .func (.func fi1) #[] cp1].toArray w0 (Ret fun v w => v = .tuple #[] ∧ ∃ css : List (Cl 3), w.ownsRow 0 28 3 xv0 css.length (css.flatMap Subtype.val) ∧ EL cellEnc Zi css res ∧ ExtB B0 w) := by
 have H : HZ B0 Zi Z [.row 28 3 xv0 cs0.length (cs0.flatMap Subtype.val)] w0 := by rw [eB, eZ]; exact HZ.startLR hZ rp0 off0
 refine enG func59 [0, 1] [_, _] fun Q a h hr hn => ?_
 rw [← eZ] at hf1 el0
 clear eB eZ
 have H : HZ B0 _ _ [_] _ := H
 unfold slices_SortFunc_Cell at hS
 refine rg fun K k => ?_
 refine cps 1 h rfl fun a h => ?_
 refine s1 h rfl (v_lenN underlying49 rfl (H.rowN (i := 0) rfl (el0.sub H.sub)) (hz_inn _)) fun a h => ?_
 refine cps 1 h rfl fun a h => ?_
 refine cz k ?_
 refine c_lregion ?_
 refine cps 3 h rfl fun a h => ?_
 refine sI h hS rfl (v_convInt (by rw [underlying3]; rfl) underlying68 rfl rfl) fun z1 e1 hS a h => ?_
 obtain ⟨c3, hS⟩ := ck hS
 obtain ⟨z4, e4, hS⟩ := bv hS
 refine st2v (T := Ext) (V := .int .i64 z4) h rfl rfl rfl ((by rw [e4]; exact dC call92 (lib_bitsLen c3))) fun w X a h => ?_
 have H := H.ext X
 refine cps 1 h rfl fun a h => ?_
 obtain ⟨y5, f5, hS⟩ := bo hS
 refine st2 h rfl rfl rfl (dC call91 (slices_pdqsortCmpFunc_Cell_ok f5 H.zini (H.hp.getRow 0 rfl) el0 (H.offZi 0 rfl) hf1 rfl rfl)) ?_
 rintro v_ w ⟨rfl, cs_6, ho_6, el0, X⟩ a h
 obtain ⟨Z, hsub, _, H⟩ := H.lentR 0 rfl ho_6 X (hl' := [_]) rfl
 have H : HZ B0 _ _ [_] _ := H
 refine c_lnil ?_
 cases hS
 exact hn _ _ (out0 h rfl ⟨rfl, _, H.hp.getRow 0 rfl, el0, H.outB⟩)
theorem cells_flat : ∀ {css : List (Cl 3)} {xs : List C} {Z : FZ}, EL cellEnc Z css xs → css.flatMap Subtype.val = xs.flatMap cL
 | [], [], _, _ => rfl
 | c :: cs, x :: xs, Z, h => by
  have h1 : c.1 = cL x := h.1
  rw [List.flatMap_cons, List.flatMap_cons, h1, cells_flat h.2]
 | [], _ :: _, _, h => h.elim
 | _ :: _, [], _, h => h.elim
theorem cells_el {Z : FZ} : ∀ (xs : List C), EL cellEnc Z (xs.map fun x => (⟨cL x, rfl⟩ : Cl 3)) xs
 | [] => trivial
 | x :: xs => ⟨rfl, cells_el xs⟩
theorem sortCp_ok {x0 : List C} {cmp : C → C → Option Int} {res : List C} {w0 : World} (hS : slices_SortFunc_Cell x0 cmp = some res) {Z : FZ} (hZ : Z.inn w0) {sv : Value} (hr : w0.ownsRow 0 28 3 sv x0.length (x0.flatMap cL)) (hoff : ∀ b, sv.ownBlock = some b → Z b = none)
 {fi : FuncId} {cp : Array Value} (hf : FnE Tryz.prog fi cp Z cellEnc (fun r : Int => .int .i64 r) cmp) :
 Calls Tryz.prog 59 [sv, .func (.func fi) #[] cp].toArray w0 (Ret fun v w => v = .tuple #[] ∧ w.ownsRow 0 28 3 sv res.length (res.flatMap cL) ∧ ExtB ⟨w0, sv.ownBlock.toList⟩ w) := by
 have hel := cells_el (Z := Z) x0
 have hr' : w0.ownsRow 0 28 3 sv (x0.map fun x => (⟨cL x, rfl⟩ : Cl 3)).length ((x0.map fun x => (⟨cL x, rfl⟩ : Cl 3)).flatMap Subtype.val) := by
  have e1 : (x0.map fun x => (⟨cL x, rfl⟩ : Cl 3)).flatMap Subtype.val = x0.flatMap cL := cells_flat hel
  rw [e1, List.length_map]
  exact hr
 refine (slices_SortFunc_Cell_ok hS hZ hr' hel hoff hf rfl rfl).mono fun e w h => ?_
 cases e with
 | returned v =>
  obtain ⟨rfl, css, h1, h2, h3⟩ := h
  refine ⟨rfl, ?_, h3⟩
  have e2 : css.flatMap Subtype.val = res.flatMap cL := cells_flat h2
  have e3 : css.length = res.length := h2.len
  rw [e2, e3] at h1
  exact h1
 | _ => exact h.elim
end Go.Proofs.YtcecjdnkcbfhlaaGreatDoor
