/- Joined texts. -/
import Derived.Test.YtcecjdnkcbfhlaaGreatDoorQS0
import Derived.Test.YtcecjdnkcbfhlaaGreatDoorQpWkB
import Derived.Test.YtcecjdnkcbfhlaaGreatDoorQpWkPC
set_option linter.unusedSimpArgs false
set_option linter.unusedVariables false
set_option linter.unusedSectionVars false
namespace Go.Proofs.YtcecjdnkcbfhlaaGreatDoor
open Go.Stp Go.RowKit Go.ValP Go.Sp _root_.Go.Proofs.Tryz
set_option maxRecDepth 100000
theorem poly_norm_ok {x0 : List (T)} {res : (List (T)) × Bool} {w0 : World} (hS : poly_norm x0 = some res) {Z : FZ} (hZ : Z.inn w0) {xv0 : Value} {cs0 : List (Cl 2)} (rp0 : w0.ownsRow 0 102 2 xv0 cs0.length (cs0.flatMap Subtype.val)) (el0 : EL termEnc Z cs0 x0) (off0 : ∀ b, xv0.ownBlock = some b → Z b = none) {B0 : Bs} (eB : B0 = ⟨w0, xv0.ownBlock.toList⟩) {Zi : FZ} (eZ : Zi = Z) : Calls Tryz.prog 74 [xv0].toArray w0 (Ret fun v w => ∃ u1, v = .tuple #[u1, .bool res.2] ∧ RdN (ZL Zi B0 w) u1 termEnc res.1 ∧ ExtB B0 w) := by
 have H : HZ B0 Zi Z [.row 102 2 xv0 cs0.length (cs0.flatMap Subtype.val)] w0 := by rw [eB, eZ]; exact HZ.startLR hZ rp0 off0
 refine enG func74 [0] [_] fun Q a h hr hn => ?_
 clear eB eZ
 have H : HZ B0 _ _ [_] _ := H
 unfold poly_norm at hS
 refine rg fun K k => ?_
 refine cps 2 h rfl fun a h => ?_
 refine cz k ?_
 refine rg fun K k => ?_
 refine cps 1 h rfl fun a h => ?_
 obtain ⟨y1, f1, hS⟩ := bo hS
 refine st2 h rfl rfl rfl (dC call107 (slices_SortStableFunc_Term_ok f1 H.zin (H.hp.getRow 0 rfl) el0 (H.offI 0 rfl) ⟨call108, fun _ _ _ _ _ _ hi_ ha_ hb_ hg_ => poly_norm_1_okE hg_ hi_ ha_ hb_⟩ rfl rfl)) ?_
 rintro v_ w ⟨rfl, cs_2, ho_2, el0, X⟩ a h
 obtain ⟨Z, hsub, _, H⟩ := H.lentR 0 rfl ho_2 X (hl' := [_]) rfl
 have el0 := el0.sub hsub
 have H : HZ B0 _ _ [_] _ := H
 refine cN k h [0] [_] fun h => ?_
 refine rg fun K k => ?_
 refine cps 1 h rfl fun a h => ?_
 refine cz k ?_
 have H := H.nilRow 102 2 rfl
 have H : HZ B0 _ _ [_, _] _ := H
 have el1 : EL termEnc Z ([] : List (Cl 2)) ([] : List (T)) := trivial
 obtain ⟨J4, eJ4, hS⟩ := bv hS
 refine sqJ (fun a w => ∃ (Z : FZ) (s4 : (List (T))) (sv5 : Value) (cs5 : List (Cl 2)), J4 s4 = some res ∧ Fr 82 [(4, sv5)] a ∧ HZ B0 Zi Z [.row 102 2 xv0 cs_2.length (cs_2.flatMap Subtype.val), .row 102 2 sv5 cs5.length (cs5.flatMap Subtype.val)] w ∧ EL termEnc Z cs5 s4 ∧ EL termEnc Z cs_2 y1) ?_ ?_
 rintro a w ⟨Z, s4, sv5, cs5, hS, h, H, el1, el0⟩
 subst eJ4
 obtain ⟨Z, hsub, H, rz1_6⟩ := H.freezeRowN (E := termEnc) 1 rfl el1
 have el0 := el0.sub hsub
 have H : HZ B0 _ _ [_, _] _ := H
 refine sq ?_
 refine rg fun K k => ?_
 refine cps 1 h rfl fun a h => ?_
 refine s1 h rfl (v_lenN underlying42 rfl rz1_6 H.zin) fun a h => ?_
 refine sB h hS rfl (v_gt rfl rfl) fun z8 e8 hS a h => ?_
 refine cz k ?_
 refine cI h hS rfl (fun ec9 hS => ?_) fun ec9 hS => ?_
 refine rg fun K k => ?_
 refine cps 2 h rfl fun a h => ?_
 refine cN k h [2, 3] [_, _] fun h => ?_
 cases hS
 refine r2 hr h rfl rfl rfl ⟨_, rfl, RdN.nil, H.outB⟩
 refine c_skip ?_
 obtain ⟨J11, eJ11, hS⟩ := bv hS
 refine sqJ (fun a w => ∃ (Z : FZ) (s11 : Unit), J11 s11 = some res ∧ Fr 82 [(4, sv5)] a ∧ HZ B0 Zi Z [.row 102 2 xv0 cs_2.length (cs_2.flatMap Subtype.val), .row 102 2 (.slice none 0 0) 0 []] w ∧ EL termEnc Z cs_2 y1 ∧ RdN Z sv5 termEnc s4) ?_ ?_
 rintro a w ⟨Z, s11, hS, h, H, el0, rz1_6⟩
 subst eJ11
 refine rg fun K k => ?_
 refine cps 3 h rfl fun a h => ?_
 refine cz k ?_
 cases hS
 refine r2 hr h rfl rfl rfl ⟨_, rfl, rz1_6.sub H.backL, H.outB⟩
 refine rg fun K k => ?_
 refine cps 1 h rfl fun a h => ?_
 refine s1 h rfl (v_lenN underlying42 rfl rz1_6 H.zin) fun a h => ?_
 refine cps 1 h rfl fun a h => ?_
 refine cz k ?_
 refine lb ?_
 obtain ⟨B13, eB13, hS⟩ := bv hS
 refine lpJ (fun mu_ a w => ∃ (Z : FZ) (s13 : Int), loopF B13 mu_ s13 = some res ∧ Fr 82 [(4, sv5), (65, sv5), (66, .int .i64 (s4.length : Int)), (67, .int .i64 s13)] a ∧ HZ B0 Zi Z [.row 102 2 xv0 cs_2.length (cs_2.flatMap Subtype.val), .row 102 2 (.slice none 0 0) 0 []] w ∧ EL termEnc Z cs_2 y1 ∧ RdN Z sv5 termEnc s4) KK ⟨_, _, hS, h.to, H, el0, rz1_6⟩ ?_
 rintro mu_ a w ⟨Z, s13, hS, h, H, el0, rz1_6⟩
 obtain ⟨mu_, rfl, n13, en13, hS⟩ := lpX eB13 hS
 refine rg fun K k => ?_
 refine sB h hS rfl (v_lt rfl rfl) fun z15 e15 hS a h => ?_
 refine cz k ?_
 refine sq ?_
 refine cI h hS rfl (fun ec17 hS => ?_) fun ec17 hS => ?_
 refine c_skip ?_
 refine sb ?_
 refine rg fun K k => ?_
 obtain ⟨c19, hS⟩ := ck hS
 obtain ⟨z20, e20, hS⟩ := bv hS
 have q_21 := rz1_6.gel ⟨_, termEnc_dflt⟩ s13
 rw [← e20] at q_21
 obtain ⟨css_21, cl_21, rc_21, hc_21, v69_21_1, hcs_21, r69_21_1⟩ := q_21
 refine st_idxC h underlying42 sizeOf102 rfl rfl (rc_21.at H.zin) c19.1 (hc_21 c19) hcs_21 rfl fun a v69 A69 h => ?_
 refine s1 h rfl (v_loadAtA [_, _] rfl A69 isAgg102 sizeOf102 rfl rfl) fun a h => ?_
 refine zA h H zeroValue102 [_, _] (fun x => [_, _, x]) fun a p22 w X H h => ?_
 have A69 := At.ext A69 X
 refine z_store h H 2 rfl rfl rfl sizeOf102 [_, _] rfl rfl (by obtain ⟨_, _, _, e_⟩ := (r69_21_1).form; subst e_; rfl) (by simp) [_, _] rfl (hl' := [_, _, _]) rfl fun w H => ?_
 refine cz k ?_
 refine rg fun K k => ?_
 refine s1 h rfl (v_fieldAddr rfl underlying102 rfl sizeOf49 rfl rfl) fun a h => ?_
 refine s1 h rfl (l1 H 2 isAgg49) fun a h => ?_
 refine s1 h rfl (v_len underlying49 rfl (r69_21_1.at H.zin)) fun a h => ?_
 refine sB h hS rfl (v_gt rfl rfl) fun z23 e23 hS a h => ?_
 refine cps 1 h rfl fun a h => ?_
 refine st_g h rfl rfl (gF rfl) rfl rfl (fun e0 => v_fieldAddr rfl underlying102 rfl sizeOf2 rfl rfl) fun a h => ?_
 refine st_g h rfl rfl (gF rfl) rfl rfl (fun e0 => v_load1 (eg e0 rfl) isAgg2 (H.hp.get 2 rfl) rfl) fun a h => ?_
 obtain ⟨z24, e24, hS⟩ := bv hS
 refine st_g h rfl rfl (gF rfl) rfl rfl (fun e0 => vB e24 (v_gt (eg e0 rfl) rfl)) fun a h => ?_
 refine sB h hS rfl (v_or rfl rfl) fun z25 e25 hS a h => ?_
 refine cN k h [4, 65, 66, 67, 79] [_, _, _, _, _] fun h => ?_
 refine cI h hS rfl (fun ec26 hS => ?_) fun ec26 hS => ?_
 refine rg fun K k => ?_
 refine cps 2 h rfl fun a h => ?_
 refine cN k h [2, 3] [_, _] fun h => ?_
 cases hS
 refine r2 hr h rfl rfl rfl ⟨_, rfl, RdN.nil, H.outB⟩
 refine c_skip ?_
 refine c_lregion ?_
 refine sI h hS rfl (v_addw rfl rfl) fun z27 e27 hS a h => ?_
 refine cps 1 h rfl fun a h => ?_
 refine c_lnil ?_
 exact exL (ex2 ⟨lpN en13 hS, h.to, (H.keepN 2 rfl), el0, rz1_6⟩)
 exact c_exit (exU1 ⟨hS, h.to, H, el0, rz1_6⟩)
 refine rg fun K k => ?_
 refine cps 1 h rfl fun a h => ?_
 refine s1 h rfl (v_lenN underlying41 rfl (H.rowN (i := 0) rfl el0) (hz_inn _)) fun a h => ?_
 refine cps 1 h rfl fun a h => ?_
 refine cz k ?_
 refine lb ?_
 obtain ⟨B29, eB29, hS⟩ := bv hS
 refine lpJ (fun mu_ a w => ∃ (Z : FZ) (s29 : Int × (List (T))) (sv31 : Value) (cs31 : List (Cl 2)), loopF B29 mu_ s29 = some res ∧ Fr 82 [(4, sv31), (14, xv0), (15, .int .i64 (y1.length : Int)), (16, .int .i64 s29.1)] a ∧ HZ B0 Zi Z [.row 102 2 xv0 cs_2.length (cs_2.flatMap Subtype.val), .row 102 2 sv31 cs31.length (cs31.flatMap Subtype.val)] w ∧ EL termEnc Z cs31 s29.2 ∧ EL termEnc Z cs_2 y1) KK ⟨_, _, _, _, hS, h.to, H, el1, el0⟩ ?_
 rintro mu_ a w ⟨Z, s29, sv31, cs31, hS, h, H, el1, el0⟩
 obtain ⟨mu_, rfl, n29, en29, hS⟩ := lpX eB29 hS
 refine rg fun K k => ?_
 refine sB h hS rfl (v_lt rfl rfl) fun z32 e32 hS a h => ?_
 refine cz k ?_
 refine sq ?_
 refine cI h hS rfl (fun ec34 hS => ?_) fun ec34 hS => ?_
 refine c_skip ?_
 refine sb ?_
 refine rg fun K k => ?_
 obtain ⟨c36, hS⟩ := ck hS
 obtain ⟨z37, e37, hS⟩ := bv hS
 have q_38 := el0.gel ⟨_, termEnc_dflt⟩ s29.1
 rw [← e37] at q_38
 obtain ⟨cl_38, hc_38, v18_38_1, hcs_38, r18_38_1⟩ := q_38
 refine st_idxC h underlying41 sizeOf102 rfl rfl (H.getRow (i := 0) rfl) c36.1 (hc_38 c36) hcs_38 rfl fun a v18 A18 h => ?_
 refine s1 h rfl (v_loadAtA [_, _] rfl A18 isAgg102 sizeOf102 rfl rfl) fun a h => ?_
 refine zA h H zeroValue102 [_, _] (fun x => [_, _, x]) fun a p39 w X H h => ?_
 have A18 := At.ext A18 X
 refine z_store h H 2 rfl rfl rfl sizeOf102 [_, _] rfl rfl (by obtain ⟨_, _, _, e_⟩ := (r18_38_1).form; subst e_; rfl) (by simp) [_, _] rfl (hl' := [_, _, _]) rfl fun w H => ?_
 refine cz k ?_
 refine rg fun K k => ?_
 refine cps 1 h rfl fun a h => ?_
 refine s1 h rfl (v_lenN underlying42 rfl (H.rowN (i := 1) rfl el1) (hz_inn _)) fun a h => ?_
 refine sI h hS rfl (v_subw rfl rfl) fun z40 e40 hS a h => ?_
 refine cps 1 h rfl fun a h => ?_
 refine cN k h [4, 6, 7, 14, 15, 16] [_, _, _, _, _, _] fun h => ?_
 refine sq ?_
 refine rg fun K k => ?_
 refine s1 h rfl (v_fieldAddr rfl underlying102 rfl sizeOf2 rfl rfl) fun a h => ?_
 refine s1 h rfl (l1 H 2 isAgg2) fun a h => ?_
 refine sB h hS rfl (v_eq rfl rfl) fun z42 e42 hS a h => ?_
 refine cz k ?_
 refine cI h hS rfl (fun ec43 hS => ?_) fun ec43 hS => ?_
 refine c_exit ?_
 refine cO h [4, 14, 15, 16] [_, _, _, _] fun h => ?_
 refine c_lregion ?_
 refine sI h hS rfl (v_addw rfl rfl) fun z44 e44 hS a h => ?_
 refine cps 1 h rfl fun a h => ?_
 refine c_lnil ?_
 exact exL (ex4 ⟨lpN en29 hS, h.to, (H.keepN 2 rfl), el1, el0⟩)
 refine c_skip ?_
 refine sq ?_
 refine fl h ?_
 refine fcps 1 rfl ?_
 refine fB hS rfl (fun w X => v_lt rfl rfl) fun z46 e46 hS => ?_
 refine fcps 1 rfl ?_
 refine f_g [4, 28] rfl rfl rfl (gF rfl) rfl rfl (fun e0 w X => v_move rfl) ?_
 refine f_g [7, 28] rfl rfl rfl (gF rfl) rfl rfl (fun e0 w X => v_move rfl) ?_
 obtain ⟨c47, hS⟩ := ck hS
 obtain ⟨z48, e48, hS⟩ := bv hS
 have q_49 := el1.gel ⟨_, termEnc_dflt⟩ z40
 rw [← e48] at q_49
 obtain ⟨cl_49, hc_49, v31_49_1, hcs_49, r31_49_1⟩ := q_49
 refine f_gR (R := (fun w' v' => At w' v' (fun _ : Unit => [.int .i64 z48.n, v31_49_1]) () 0)) (c := !z46) [29, 30, 28] rfl rfl rfl rfl rfl at_stab (fun w X => ?_) ?_
 skip
 exact ⟨(gF rfl), fun e0 => have H := H.ext X; d_idxC underlying42 sizeOf102 (eg e0 rfl) (eg e0 rfl) (H.getRow (i := 1) rfl) (c47 e0).1 (hc_49 (c47 e0)) hcs_49⟩
 refine f_gR (R := (fun w' v' => At w' v' (fun _ : Unit => [.int .i64 z48.n, v31_49_1]) () 1)) (c := !z46) [31, 28] rfl rfl rfl rfl rfl at_stab (fun w X => ?_) ?_
 intro v31 h31
 exact ⟨(gF rfl), fun e0 => d_field rfl (h31 e0) underlying102 rfl sizeOf49 rfl rfl⟩
 refine f_gE (V := v31_49_1) (c := !z46) [32, 28] rfl rfl rfl rfl rfl (fun w X => ?_) ?_
 intro v32 h32
 exact ⟨(gF rfl), fun e0 => (v_loadAt1 rfl (h32 e0) isAgg49 rfl).doesF⟩
 refine f_g [6, 28] rfl rfl rfl (gF rfl) rfl rfl (fun e0 w X => v_fieldAddr rfl underlying102 rfl sizeOf49 rfl rfl) ?_
 refine f_g [34, 28] rfl rfl rfl (gF rfl) rfl rfl (fun e0 w X => have H := H.ext X; v_load1 (eg e0 rfl) isAgg49 (H.hp.get 2 rfl) rfl) ?_
 obtain ⟨y50, f50, hS⟩ := bo hS
 refine f_gd (V := .int .i64 y50) [33, 35, 28] rfl rfl rfl (gF rfl) rfl rfl (fun e0 w X => have H := H.ext X; d_call [_, _] (evs_c (eg e0 rfl) (evs_c (eg e0 rfl) evs_n)) call109 (poly_less_ok (x0 := z48.v) (x1 := z37.v) (ifT e0 f50) (r31_49_1.hz H.zin) (r18_38_1.hz H.zin))) ?_
 obtain ⟨z51, e51, hS⟩ := bv hS
 refine f_g [36, 28] rfl rfl rfl (gF rfl) rfl rfl (fun e0 w X => vB e51 (v_ne (eg e0 rfl) rfl)) ?_
 refine fB hS rfl (fun w X => v_or rfl rfl) fun z52 e52 hS => ?_
 refine fE [4, 6, 7, 14, 15, 16, 38] [_, _, _, _, _, _, _] H fun a w X H h => ?_
 refine cI h hS rfl (fun ec53 hS => ?_) fun ec53 hS => ?_
 refine rg fun K k => ?_
 refine cps 1 h rfl fun a h => ?_
 refine s1 h rfl (lA H 2 isAgg102 sizeOf102 [_, _]) fun a h => ?_
 refine z_slice (enc := (Subtype.val (p := fun l : List Value => l.length = 2))) ([⟨[.int .i64 z37.n, v18_38_1], rfl⟩] : List (Cl 2)) h H underlying42 sizeOf102 zeroValue102 rfl (zl := [.int .i64 0, .slice none 0 0]) (by kernel_rfl) (plA_get 1 2) [_] [_, _] rfl rfl rfl rfl rfl fun a v41_54 Z w hsub X H r41_54 h => ?_
 have el0 := el0.sub hsub
 have el1 := el1.sub hsub
 have r18_38_1 := r18_38_1.sub hsub
 have r31_49_1 := r31_49_1.sub hsub
 have r41_54 : RdN Z v41_54 termEnc [z37] := ⟨_, r41_54, ⟨⟨_, rfl, r18_38_1⟩, trivial⟩⟩
 obtain ⟨c56, hS⟩ := ck hS
 obtain ⟨z57, e57, hS⟩ := bv hS
 obtain ⟨cy_55, ry_55, ey_55⟩ := id r41_54
 refine z_appendS (enc := (Subtype.val (p := fun l : List Value => l.length = 2))) (out := cs31) (data := cy_55) h H 1 rfl underlying42 app102 rfl rfl rfl ry_55 (fun c => c.2) ey_55.one (bnd el1.len ey_55.len c56) rfl fun a v42_55 w H h => ?_
 have el1 := EL.append el1 ey_55
 rw [← e57] at el1
 have el1 : EL termEnc Z (List.append (α := Cl 2) cs31 cy_55) z57 := el1
 have H : HZ B0 _ _ [_, _, _] _ := H
 refine cps 1 h rfl fun a h => ?_
 refine cN k h [4, 14, 15, 16] [_, _, _, _] fun h => ?_
 refine c_exit ?_
 refine c_lregion ?_
 refine sI h hS rfl (v_addw rfl rfl) fun z58 e58 hS a h => ?_
 refine cps 1 h rfl fun a h => ?_
 refine c_lnil ?_
 exact exL (ex4 ⟨lpN en29 hS, h.to, (H.keepN 2 rfl), el1, el0⟩)
 refine c_skip ?_
 refine fl h ?_
 refine fcps 2 rfl ?_
 obtain ⟨c59, hS⟩ := ck hS
 obtain ⟨z60, e60, hS⟩ := bv hS
 have q_61 := el1.gel ⟨_, termEnc_dflt⟩ z40
 rw [← e60] at q_61
 obtain ⟨cl_61, hc_61, v46_61_1, hcs_61, r46_61_1⟩ := q_61
 refine f_op [44, 45] rfl rfl rfl rfl false (.rel (fun w' v' => At w' v' (fun _ : Unit => [.int .i64 z60.n, v46_61_1]) () 0)) at_stab (fun w X => ?_) ?_
 skip
 exact have H := H.ext X; d_idxC underlying42 sizeOf102 rfl rfl (H.getRow (i := 1) rfl) c59.1 (hc_61 c59) hcs_61
 refine f_op [46] rfl rfl rfl rfl false (.rel (fun w' v' => At w' v' (fun _ : Unit => [.int .i64 z60.n, v46_61_1]) () 0)) at_stab (fun w X => ?_) ?_
 intro v46 h46
 exact d_field rfl h46 underlying102 rfl sizeOf2 rfl rfl
 refine f_op [47] rfl rfl rfl rfl false (.eq (.int .i64 z60.n)) trivial (fun w X => ?_) ?_
 intro v47 h47
 exact (v_loadAt1 rfl h47 isAgg2 rfl).doesF
 refine F1 rfl (fun w X => v_fieldAddr rfl underlying102 rfl sizeOf2 rfl rfl) ?_
 refine F1 rfl (fun w X => have H := H.ext X; l1 H 2 isAgg2) ?_
 refine fC hS rfl (fun y62 f62 w X => dC call57 (num_Add_ok f62 :)) fun y62 hS => ?_
 refine fcps 5 rfl ?_
 refine fE [4, 7, 8, 9, 14, 15, 16] [_, _, _, _, _, _, _] H fun a w X H h => ?_
 refine sq ?_
 refine rg fun K k => ?_
 refine cps 1 h rfl fun a h => ?_
 refine sB h hS rfl (v_not rfl) fun z64 e64 hS a h => ?_
 refine cz k ?_
 refine cI h hS rfl (fun ec65 hS => ?_) fun ec65 hS => ?_
 refine rg fun K k => ?_
 refine cps 2 h rfl fun a h => ?_
 refine cN k h [2, 3] [_, _] fun h => ?_
 cases hS
 refine r2 hr h rfl rfl rfl ⟨_, rfl, RdN.nil, H.outB⟩
 refine c_skip ?_
 refine c_lregion ?_
 refine cps 3 h rfl fun a h => ?_
 obtain ⟨c66, hS⟩ := ck hS
 obtain ⟨z67, e67, hS⟩ := bv hS
 have q_68 := el1.gel ⟨_, termEnc_dflt⟩ z40
 rw [← e67] at q_68
 obtain ⟨cl_68, hc_68, v59_68_1, hcs_68, r59_68_1⟩ := q_68
 have ln_68 : cs31.length = s29.2.length := el1.len
 obtain ⟨gb_68, cap_68, hsv_68⟩ := H.rowPtr (i := 1) rfl (by omega)
 refine s1 h rfl (v_idxRow hsv_68 underlying42 sizeOf102 rfl rfl (by omega)) fun a h => ?_
 refine s1 h rfl (v_fieldAddr rfl underlying102 rfl sizeOf2 rfl rfl) fun a h => ?_
 obtain ⟨zr1_69, ezr1_69, hS⟩ := bv hS
 refine z_storeN h H 1 rfl hsv_68 (Int.toNat z40) (hc_68 c66) (j := 0) rfl rfl sizeOf2 [_] rfl rfl rfl (by decide) (c' := (⟨[.int .i64 y62.1, v59_68_1], rfl⟩ : Cl 2)) (by rw [hcs_68]; rfl) (hl' := [_, _, _]) rfl fun w H => ?_
 have el1 := EL.set (E := termEnc) (x := (⟨y62.1, z67.v⟩ : T)) (c := ⟨[.int .i64 y62.1, v59_68_1], rfl⟩) ⟨_, rfl, r59_68_1⟩ (Int.toNat z40) el1
 rw [← ezr1_69] at el1
 have el1 : EL termEnc Z (List.set (α := Cl 2) cs31 (Int.toNat z40) ⟨[.int .i64 y62.1, v59_68_1], rfl⟩) zr1_69 := el1
 have H : HZ B0 _ _ [_, _, _] _ := H
 refine c_lnil ?_
 refine cO h [4, 14, 15, 16] [_, _, _, _] fun h => ?_
 refine c_lregion ?_
 refine sI h hS rfl (v_addw rfl rfl) fun z70 e70 hS a h => ?_
 refine cps 1 h rfl fun a h => ?_
 refine c_lnil ?_
 exact exL (ex4 ⟨lpN en29 hS, h.to, (H.keepN 2 rfl), el1, el0⟩)
 exact c_exit (ex4 ⟨hS, h.to, H, el1, el0⟩)
theorem poly_Const_ok {x0 : Int} {res : (List (T)) × Bool} {w0 : World} (hS : poly_Const x0 = some res) {Z : FZ} (hZ : Z.inn w0) : Calls Tryz.prog 51 [.int .i64 x0].toArray w0 (Ret fun v w => ∃ u1, v = .tuple #[u1, .bool res.2] ∧ RdN (ZB Z w0.heap.size w) u1 termEnc res.1 ∧ Ext w0 w) := by
 refine enS hZ func51 [0] [_] fun Q a Zi eZi H h hr => ?_
 try rw [← eZi] at hr
 clear eZi
 unfold poly_Const at hS
 refine rg fun K k => ?_
 refine cps 2 h rfl fun a h => ?_
 refine cz k ?_
 refine sq ?_
 refine rg fun K k => ?_
 refine cps 1 h rfl fun a h => ?_
 refine sB h hS rfl (v_lt rfl rfl) fun z2 e2 hS a h => ?_
 refine cps 1 h rfl fun a h => ?_
 refine st_g h rfl rfl (gF rfl) rfl rfl (fun e0 => v_move rfl) fun a h => ?_
 obtain ⟨z3, e3, hS⟩ := bv hS
 refine st_g h rfl rfl (gF rfl) rfl rfl (fun e0 => vB e3 (v_gt (eg e0 rfl) rfl)) fun a h => ?_
 refine sB h hS rfl (v_or rfl rfl) fun z4 e4 hS a h => ?_
 refine cN k h [0, 9] [_, _] fun h => ?_
 refine cI h hS rfl (fun ec5 hS => ?_) fun ec5 hS => ?_
 refine rg fun K k => ?_
 refine cps 2 h rfl fun a h => ?_
 refine cz k ?_
 cases hS
 refine r2 hr h rfl rfl rfl ⟨_, rfl, RdN.nil, H.out⟩
 refine c_skip ?_
 refine rg fun K k => ?_
 refine cps 1 h rfl fun a h => ?_
 refine s1 h rfl (v_build bld102 [_] [_, _] rfl rfl) fun a h => ?_
 refine z_sliceR h H underlying41 sizeOf102 zeroValue102 rfl rfl (zl := [.int .i64 0, .slice none 0 0]) (by kernel_rfl) (plA_get 1 2) [_] [_, _] rfl rfl rfl rfl fun a v12_6 w X H h => ?_
 have el0 : EL termEnc Z ([⟨[.int .i64 x0, .slice none 0 0], rfl⟩] : List (Cl 2)) [(⟨x0, []⟩ : T)] := ⟨⟨_, rfl, RdZ.nil⟩, trivial⟩
 have H : HZ w0 _ _ [_] _ := H
 obtain ⟨y7, f7, hS⟩ := bo hS
 refine st2 h rfl rfl rfl (dC call74 (poly_norm_ok f7 H.zin (H.hp.getRow 0 rfl) el0 (H.offI 0 rfl) rfl rfl)) ?_
 rintro v_ w ⟨v13_8_1, rfl, r13_8_1, X⟩ a h
 obtain ⟨Z, hsub, hadd, H⟩ := H.given 0 rfl X (hl' := [_]) rfl
 have r13_8_1 := r13_8_1.sub hadd
 have H : HZ w0 _ _ [_] _ := H
 refine cps 4 h rfl fun a h => ?_
 refine cN k h [2, 3] [_, _] fun h => ?_
 cases hS
 refine r2 hr h rfl rfl rfl ⟨_, rfl, r13_8_1.sub H.back, H.out⟩
theorem poly_Var_ok {x0 : C} {res : (List (T))} {w0 : World} (hS : poly_Var x0 = some res) {Z : FZ} (hZ : Z.inn w0) : Calls Tryz.prog 45 [.agg #[.int .i64 x0.s, .int .i64 x0.c, .int .i64 x0.r]].toArray w0 (Ret fun v w => RdN (ZB Z w0.heap.size w) v termEnc res ∧ Ext w0 w) := by
 refine enS hZ func45 [0] [_] fun Q a Zi eZi H h hr => ?_
 try rw [← eZi] at hr
 clear eZi
 unfold poly_Var at hS
 refine rg fun K k => ?_
 refine z_box h H rfl [_, _, _] rfl rfl fun a p1 w X H h => ?_
 have H : HZ w0 _ _ [_] _ := H
 refine cps 1 h rfl fun a h => ?_
 refine cz k ?_
 refine rg fun K k => ?_
 refine s1 h rfl (lA H 0 isAgg28 sizeOf28 [_, _, _]) fun a h => ?_
 refine z_slice (enc := cL) ([x0] : List (C)) h H underlying49 sizeOf28 zeroValue28 rfl (zl := [.int .i64 0, .int .i64 0, .int .i64 0]) (by kernel_rfl) (plA_get 1 3) [_] [_, _, _] rfl rfl rfl rfl rfl fun a v4_2 Z w hsub X H r4_2 h => ?_
 refine s1 h rfl (v_build bld102 [.int .i64 1, v4_2] [.int .i64 1, v4_2] rfl (by obtain ⟨_, _, _, e_⟩ := (r4_2).form; subst e_; rfl)) fun a h => ?_
 refine z_slice (enc := (Subtype.val (p := fun l : List Value => l.length = 2))) ([⟨[.int .i64 1, v4_2], rfl⟩] : List (Cl 2)) h H underlying42 sizeOf102 zeroValue102 rfl (zl := [.int .i64 0, .slice none 0 0]) (by kernel_rfl) (plA_get 1 2) [_] [_, _] rfl rfl rfl rfl rfl fun a v6_3 Z w hsub X H r6_3 h => ?_
 have r4_2 := r4_2.sub hsub
 have r6_3 : RdN Z v6_3 termEnc [(⟨1, [x0]⟩ : T)] := ⟨_, r6_3, ⟨⟨_, rfl, r4_2⟩, trivial⟩⟩
 refine cps 1 h rfl fun a h => ?_
 refine cN k h [2] [_] fun h => ?_
 cases hS
 refine r1 hr h rfl rfl ⟨r6_3.sub H.back, H.out⟩
theorem poly_Add_ok {x0 : List (List (T))} {res : (List (T)) × Bool} {w0 : World} (hS : poly_Add x0 = some res) {Z : FZ} (hZ : Z.inn w0) {xv0 : Value} (rp0 : RdN Z xv0 polyEnc x0) : Calls Tryz.prog 44 [xv0].toArray w0 (Ret fun v w => ∃ u1, v = .tuple #[u1, .bool res.2] ∧ RdN (ZB Z w0.heap.size w) u1 termEnc res.1 ∧ Ext w0 w) := by
 refine enS hZ func44 [0] [_] fun Q a Zi eZi H h hr => ?_
 try rw [← eZi] at hr
 clear eZi
 unfold poly_Add at hS
 refine rg fun K k => ?_
 refine cps 2 h rfl fun a h => ?_
 refine cz k ?_
 refine rg fun K k => ?_
 refine cps 1 h rfl fun a h => ?_
 refine cz k ?_
 have H := H.nilRow 102 2 rfl
 have H : HZ w0 _ _ [_] _ := H
 have el0 : EL termEnc Z ([] : List (Cl 2)) ([] : List (T)) := trivial
 obtain ⟨J2, eJ2, hS⟩ := bv hS
 refine sqJ (fun a w => ∃ (Z : FZ) (s2 : (List (T))) (sv3 : Value) (cs3 : List (Cl 2)), J2 s2 = some res ∧ Fr 21 [(4, sv3)] a ∧ HZ w0 Zi Z [.row 102 2 sv3 cs3.length (cs3.flatMap Subtype.val)] w ∧ EL termEnc Z cs3 s2) ?_ ?_
 rintro a w ⟨Z, s2, sv3, cs3, hS, h, H, el0⟩
 subst eJ2
 refine rg fun K k => ?_
 refine cps 1 h rfl fun a h => ?_
 obtain ⟨y4, f4, hS⟩ := bo hS
 refine st2 h rfl rfl rfl (dC call74 (poly_norm_ok f4 H.zin (H.hp.getRow 0 rfl) el0 (H.offI 0 rfl) rfl rfl)) ?_
 rintro v_ w ⟨v18_5_1, rfl, r18_5_1, X⟩ a h
 obtain ⟨Z, hsub, hadd, H⟩ := H.given 0 rfl X (hl' := [_]) rfl
 have r18_5_1 := r18_5_1.sub hadd
 have H : HZ w0 _ _ [_] _ := H
 refine cps 4 h rfl fun a h => ?_
 refine cN k h [2, 3] [_, _] fun h => ?_
 cases hS
 refine r2 hr h rfl rfl rfl ⟨_, rfl, r18_5_1.sub H.back, H.out⟩
 refine rg fun K k => ?_
 refine cps 1 h rfl fun a h => ?_
 refine s1 h rfl (v_lenN underlying129 rfl rp0 H.zin) fun a h => ?_
 refine cps 1 h rfl fun a h => ?_
 refine cz k ?_
 refine lb ?_
 obtain ⟨B7, eB7, hS⟩ := bv hS
 refine lpJ (fun mu_ a w => ∃ (Z : FZ) (s7 : Int × (List (T))) (sv9 : Value) (cs9 : List (Cl 2)), loopF B7 mu_ s7 = some res ∧ Fr 21 [(4, sv9), (7, xv0), (8, .int .i64 (x0.length : Int)), (9, .int .i64 s7.1)] a ∧ HZ w0 Zi Z [.row 102 2 sv9 cs9.length (cs9.flatMap Subtype.val)] w ∧ EL termEnc Z cs9 s7.2 ∧ RdN Z xv0 polyEnc x0) KK ⟨_, _, _, _, hS, h.to, H, el0, rp0⟩ ?_
 rintro mu_ a w ⟨Z, s7, sv9, cs9, hS, h, H, el0, rp0⟩
 obtain ⟨mu_, rfl, n7, en7, hS⟩ := lpX eB7 hS
 refine rg fun K k => ?_
 refine sB h hS rfl (v_lt rfl rfl) fun z10 e10 hS a h => ?_
 refine cz k ?_
 refine sq ?_
 refine cI h hS rfl (fun ec12 hS => ?_) fun ec12 hS => ?_
 refine c_skip ?_
 refine sb ?_
 refine rg fun K k => ?_
 obtain ⟨c14, hS⟩ := ck hS
 obtain ⟨z15, e15, hS⟩ := bv hS
 have q_16 := rp0.gel ⟨_, polyEnc_dflt⟩ s7.1
 rw [← e15] at q_16
 obtain ⟨css_16, cl_16, rc_16, hc_16, v11_16_1, hcs_16, r11_16_1⟩ := q_16
 refine st_idxC h underlying129 sizeOf42 rfl rfl (rc_16.at H.zin) c14.1 (hc_16 c14) hcs_16 rfl fun a v11 A11 h => ?_
 refine s1 h rfl (v_loadAt1 rfl A11 isAgg42 rfl) fun a h => ?_
 refine cps 1 h rfl fun a h => ?_
 refine cz k ?_
 refine c_lregion ?_
 refine cps 2 h rfl fun a h => ?_
 obtain ⟨c18, hS⟩ := ck hS
 obtain ⟨z19, e19, hS⟩ := bv hS
 obtain ⟨cy_17, ry_17, ey_17⟩ := id r11_16_1
 refine z_append2 (enc := (Subtype.val (p := fun l : List Value => l.length = 2))) (out := cs9) (data := cy_17) h H 0 rfl underlying41 underlying42 app102 rfl rfl rfl ry_17 (fun c => c.2) ey_17.one (bnd el0.len ey_17.len c18) rfl fun a v15_17 w H h => ?_
 have el0 := EL.append el0 ey_17
 rw [← e19] at el0
 have el0 : EL termEnc Z (List.append (α := Cl 2) cs9 cy_17) z19 := el0
 have H : HZ w0 _ _ [_] _ := H
 refine cps 1 h rfl fun a h => ?_
 refine c_lnil ?_
 refine cO h [4, 7, 8, 9] [_, _, _, _] fun h => ?_
 refine c_lregion ?_
 refine sI h hS rfl (v_addw rfl rfl) fun z20 e20 hS a h => ?_
 refine cps 1 h rfl fun a h => ?_
 refine c_lnil ?_
 exact exL (ex4 ⟨lpN en7 hS, h.to, H, el0, rp0⟩)
 exact c_exit (ex4 ⟨hS, h.to, H, el0⟩)
theorem poly_Mul_ok {x0 : List (T)} {x1 : List (T)} {res : (List (T)) × Bool} {w0 : World} (hS : poly_Mul x0 x1 = some res) {Z : FZ} (hZ : Z.inn w0) {xv0 : Value} (rp0 : RdN Z xv0 termEnc x0) {xv1 : Value} (rp1 : RdN Z xv1 termEnc x1) : Calls Tryz.prog 78 [xv0, xv1].toArray w0 (Ret fun v w => ∃ u1, v = .tuple #[u1, .bool res.2] ∧ RdN (ZB Z w0.heap.size w) u1 termEnc res.1 ∧ Ext w0 w) := by
 refine enS hZ func78 [0, 1] [_, _] fun Q a Zi eZi H h hr => ?_
 try rw [← eZi] at hr
 clear eZi
 unfold poly_Mul at hS
 refine rg fun K k => ?_
 refine cps 2 h rfl fun a h => ?_
 refine cz k ?_
 refine rg fun K k => ?_
 refine cps 1 h rfl fun a h => ?_
 refine cz k ?_
 have H := H.nilRow 102 2 rfl
 have H : HZ w0 _ _ [_] _ := H
 have el0 : EL termEnc Z ([] : List (Cl 2)) ([] : List (T)) := trivial
 obtain ⟨J2, eJ2, hS⟩ := bv hS
 refine sqJ (fun a w => ∃ (Z : FZ) (s2 : (List (T))) (sv3 : Value) (cs3 : List (Cl 2)), J2 s2 = some res ∧ Fr 48 [(6, sv3)] a ∧ HZ w0 Zi Z [.row 102 2 sv3 cs3.length (cs3.flatMap Subtype.val)] w ∧ EL termEnc Z cs3 s2) ?_ ?_
 rintro a w ⟨Z, s2, sv3, cs3, hS, h, H, el0⟩
 subst eJ2
 refine rg fun K k => ?_
 refine cps 1 h rfl fun a h => ?_
 obtain ⟨y4, f4, hS⟩ := bo hS
 refine st2 h rfl rfl rfl (dC call74 (poly_norm_ok f4 H.zin (H.hp.getRow 0 rfl) el0 (H.offI 0 rfl) rfl rfl)) ?_
 rintro v_ w ⟨v45_5_1, rfl, r45_5_1, X⟩ a h
 obtain ⟨Z, hsub, hadd, H⟩ := H.given 0 rfl X (hl' := [_]) rfl
 have r45_5_1 := r45_5_1.sub hadd
 have H : HZ w0 _ _ [_] _ := H
 refine cps 4 h rfl fun a h => ?_
 refine cN k h [4, 5] [_, _] fun h => ?_
 cases hS
 refine r2 hr h rfl rfl rfl ⟨_, rfl, r45_5_1.sub H.back, H.out⟩
 refine rg fun K k => ?_
 refine cps 1 h rfl fun a h => ?_
 refine s1 h rfl (v_lenN underlying42 rfl rp0 H.zin) fun a h => ?_
 refine cps 1 h rfl fun a h => ?_
 refine cz k ?_
 refine lb ?_
 obtain ⟨B7, eB7, hS⟩ := bv hS
 refine lpJ (fun mu_ a w => ∃ (Z : FZ) (s7 : Int × (List (T))) (sv9 : Value) (cs9 : List (Cl 2)), loopF B7 mu_ s7 = some res ∧ Fr 48 [(1, xv1), (6, sv9), (12, xv0), (13, .int .i64 (x0.length : Int)), (14, .int .i64 s7.1)] a ∧ HZ w0 Zi Z [.row 102 2 sv9 cs9.length (cs9.flatMap Subtype.val)] w ∧ EL termEnc Z cs9 s7.2 ∧ RdN Z xv1 termEnc x1 ∧ RdN Z xv0 termEnc x0) KK ⟨_, _, _, _, hS, h.to, H, el0, rp1, rp0⟩ ?_
 rintro mu_ a w ⟨Z, s7, sv9, cs9, hS, h, H, el0, rp1, rp0⟩
 obtain ⟨mu_, rfl, n7, en7, hS⟩ := lpX eB7 hS
 refine rg fun K k => ?_
 refine sB h hS rfl (v_lt rfl rfl) fun z10 e10 hS a h => ?_
 refine cz k ?_
 refine sq ?_
 refine cI h hS rfl (fun ec12 hS => ?_) fun ec12 hS => ?_
 refine c_skip ?_
 refine sb ?_
 refine rg fun K k => ?_
 obtain ⟨c14, hS⟩ := ck hS
 obtain ⟨z15, e15, hS⟩ := bv hS
 have q_16 := rp0.gel ⟨_, termEnc_dflt⟩ s7.1
 rw [← e15] at q_16
 obtain ⟨css_16, cl_16, rc_16, hc_16, v16_16_1, hcs_16, r16_16_1⟩ := q_16
 refine st_idxC h underlying42 sizeOf102 rfl rfl (rc_16.at H.zin) c14.1 (hc_16 c14) hcs_16 rfl fun a v16 A16 h => ?_
 refine s1 h rfl (v_loadAtA [_, _] rfl A16 isAgg102 sizeOf102 rfl rfl) fun a h => ?_
 refine zA h H zeroValue102 [_, _] (fun x => [_, x]) fun a p17 w X H h => ?_
 have A16 := At.ext A16 X
 refine z_store h H 1 rfl rfl rfl sizeOf102 [_, _] rfl rfl (by obtain ⟨_, _, _, e_⟩ := (r16_16_1).form; subst e_; rfl) (by simp) [_, _] rfl (hl' := [_, _]) rfl fun w H => ?_
 refine cz k ?_
 refine rg fun K k => ?_
 refine cps 1 h rfl fun a h => ?_
 refine s1 h rfl (v_lenN underlying42 rfl rp1 H.zin) fun a h => ?_
 refine cps 1 h rfl fun a h => ?_
 refine cz k ?_
 refine lb ?_
 obtain ⟨B19, eB19, hS⟩ := bv hS
 refine lpJ (fun mu_ a w => ∃ (Z : FZ) (s19 : Int × (List (T))) (sv21 : Value) (cs21 : List (Cl 2)), loopF B19 mu_ s19 = some res ∧ Fr 48 [(1, xv1), (6, sv21), (8, .pointer (some ⟨p17, 0, none⟩)), (12, xv0), (13, .int .i64 (x0.length : Int)), (14, .int .i64 s7.1), (18, xv1), (19, .int .i64 (x1.length : Int)), (20, .int .i64 s19.1)] a ∧ HZ w0 Zi Z [.row 102 2 sv21 cs21.length (cs21.flatMap Subtype.val), .blk p17 (Cel [.int .i64 z15.n, v16_16_1] 102)] w ∧ EL termEnc Z cs21 s19.2 ∧ RdN Z xv1 termEnc x1 ∧ RdN Z xv0 termEnc x0 ∧ RdZ Z v16_16_1 3 cL z15.v) KK ⟨_, _, _, _, hS, h.to, H, el0, rp1, rp0, r16_16_1⟩ ?_
 rintro mu_ a w ⟨Z, s19, sv21, cs21, hS, h, H, el0, rp1, rp0, r16_16_1⟩
 obtain ⟨mu_, rfl, n19, en19, hS⟩ := lpX eB19 hS
 refine rg fun K k => ?_
 refine sB h hS rfl (v_lt rfl rfl) fun z22 e22 hS a h => ?_
 refine cz k ?_
 refine sq ?_
 refine cI h hS rfl (fun ec24 hS => ?_) fun ec24 hS => ?_
 refine c_skip ?_
 refine sb ?_
 refine rg fun K k => ?_
 obtain ⟨c26, hS⟩ := ck hS
 obtain ⟨z27, e27, hS⟩ := bv hS
 have q_28 := rp1.gel ⟨_, termEnc_dflt⟩ s19.1
 rw [← e27] at q_28
 obtain ⟨css_28, cl_28, rc_28, hc_28, v22_28_1, hcs_28, r22_28_1⟩ := q_28
 refine st_idxC h underlying42 sizeOf102 rfl rfl (rc_28.at H.zin) c26.1 (hc_28 c26) hcs_28 rfl fun a v22 A22 h => ?_
 refine s1 h rfl (v_loadAtA [_, _] rfl A22 isAgg102 sizeOf102 rfl rfl) fun a h => ?_
 refine zA h H zeroValue102 [_, _] (fun x => [_, _, x]) fun a p29 w X H h => ?_
 have A22 := At.ext A22 X
 refine z_store h H 2 rfl rfl rfl sizeOf102 [_, _] rfl rfl (by obtain ⟨_, _, _, e_⟩ := (r22_28_1).form; subst e_; rfl) (by simp) [_, _] rfl (hl' := [_, _, _]) rfl fun w H => ?_
 refine cz k ?_
 obtain ⟨c31, hS⟩ := ck hS
 obtain ⟨c32, hS⟩ := ck hS
 obtain ⟨zapp_33, ezapp_33, hS⟩ := bv hS
 have H := H.nilRow 28 3 rfl
 refine c_any (by kernel_rfl) fun K hK => ?_
 refine haveB (C := ∀ a w, (∃ va_30, HZ w0 Zi Z [.row 102 2 sv21 cs21.length (cs21.flatMap Subtype.val), .blk p17 (Cel [.int .i64 z15.n, v16_16_1] 102), .blk p29 (Cel [.int .i64 z27.n, v22_28_1] 102), .row 28 3 va_30 (zapp_33 : List (C)).length ((zapp_33 : List (C)).flatMap cL)] w ∧ Fr 48 [(1, xv1), (6, sv21), (8, .pointer (some ⟨p17, 0, none⟩)), (10, .pointer (some ⟨p29, 0, none⟩)), (11, va_30), (12, xv0), (13, .int .i64 (x0.length : Int)), (14, .int .i64 s7.1), (18, xv1), (19, .int .i64 (x1.length : Int)), (20, .int .i64 s19.1)] a) → K a w) ?_ fun fin_30 => ?_
 rintro a w ⟨va_30, H, h⟩
 refine hK _ _ ?_
 have H : HZ w0 _ _ [_, _, _, _] _ := H
 refine rg fun K k => ?_
 refine cps 1 h rfl fun a h => ?_
 obtain ⟨y34, f34, hS⟩ := bo hS
 refine st2 h rfl rfl rfl (dC call59 (sortCp_ok f34 H.zin (H.hp.getRow 3 rfl) (H.offI 3 rfl) ⟨call111, fun _ _ _ _ _ _ hi_ ha_ hb_ hg_ => poly_Mul_1_okE hg_ hi_ ha_ hb_⟩)) ?_
 rintro v_ w ⟨rfl, ho_35, X⟩ a h
 obtain ⟨Z, hsub, _, H⟩ := H.lentR 3 rfl ho_35 X (hl' := [_, _, _, _]) rfl
 have el0 := el0.sub hsub
 have r16_16_1 := r16_16_1.sub hsub
 have r22_28_1 := r22_28_1.sub hsub
 have rp0 := rp0.sub hsub
 have rp1 := rp1.sub hsub
 have H : HZ w0 _ _ [_, _, _, _] _ := H
 refine cz k ?_
 refine c_lregion ?_
 refine cps 1 h rfl fun a h => ?_
 refine s1 h rfl (v_fieldAddr rfl underlying102 rfl sizeOf2 rfl rfl) fun a h => ?_
 refine s1 h rfl (l1 H 1 isAgg2) fun a h => ?_
 refine s1 h rfl (v_fieldAddr rfl underlying102 rfl sizeOf2 rfl rfl) fun a h => ?_
 refine s1 h rfl (l1 H 2 isAgg2) fun a h => ?_
 refine sI h hS rfl (v_mulw rfl rfl) fun z36 e36 hS a h => ?_
 refine cps 1 h rfl fun a h => ?_
 obtain ⟨Z, hsub, H, rz3_37⟩ := H.freezeRow (enc := cL) (out := y34) 3 rfl
 have el0 := el0.sub hsub
 have r16_16_1 := r16_16_1.sub hsub
 have r22_28_1 := r22_28_1.sub hsub
 have rp0 := rp0.sub hsub
 have rp1 := rp1.sub hsub
 have H : HZ w0 _ _ [_, _, _, _] _ := H
 refine s1 h rfl (v_build bld102 [.int .i64 z36, va_30] [.int .i64 z36, va_30] rfl (by obtain ⟨_, _, _, e_⟩ := (rz3_37).form; subst e_; rfl)) fun a h => ?_
 refine z_slice (enc := (Subtype.val (p := fun l : List Value => l.length = 2))) ([⟨[.int .i64 z36, va_30], rfl⟩] : List (Cl 2)) h H underlying41 sizeOf102 zeroValue102 rfl (zl := [.int .i64 0, .slice none 0 0]) (by kernel_rfl) (plA_get 1 2) [_] [_, _] rfl rfl rfl rfl rfl fun a v40_38 Z w hsub X H r40_38 h => ?_
 have el0 := el0.sub hsub
 have r16_16_1 := r16_16_1.sub hsub
 have r22_28_1 := r22_28_1.sub hsub
 have rp0 := rp0.sub hsub
 have rp1 := rp1.sub hsub
 have rz3_37 := rz3_37.sub hsub
 have r40_38 : RdN Z v40_38 termEnc [(⟨z36, y34⟩ : T)] := ⟨_, r40_38, ⟨⟨_, rfl, rz3_37⟩, trivial⟩⟩
 obtain ⟨c40, hS⟩ := ck hS
 obtain ⟨z41, e41, hS⟩ := bv hS
 obtain ⟨cy_39, ry_39, ey_39⟩ := id r40_38
 refine z_appendS (enc := (Subtype.val (p := fun l : List Value => l.length = 2))) (out := cs21) (data := cy_39) h H 0 rfl underlying41 app102 rfl rfl rfl ry_39 (fun c => c.2) ey_39.one (bnd el0.len ey_39.len c40) rfl fun a v41_39 w H h => ?_
 have el0 := EL.append el0 ey_39
 rw [← e41] at el0
 have el0 : EL termEnc Z (List.append (α := Cl 2) cs21 cy_39) z41 := el0
 have H : HZ w0 _ _ [_, _, _, _] _ := H
 refine cps 1 h rfl fun a h => ?_
 refine c_lnil ?_
 refine cO h [1, 6, 8, 12, 13, 14, 18, 19, 20] [_, _, _, _, _, _, _, _, _] fun h => ?_
 refine c_lregion ?_
 refine sI h hS rfl (v_addw rfl rfl) fun z42 e42 hS a h => ?_
 refine cps 1 h rfl fun a h => ?_
 refine c_lnil ?_
 exact exL (ex4 ⟨lpN en19 hS, h.to, (H.keepN 2 rfl), el0, rp1, rp0, r16_16_1⟩)
 have H := H.ext (Ext.drew w)
 have hX : ({ w with drawn := w.drawn + 1 } : World) = w.drew := rfl
 rw [hX]
 clear hX
 generalize w.drew = w at *
 refine a_hoist (i := 0) h rfl rfl rfl rfl (fun w => v_fieldAddr rfl underlying102 rfl sizeOf49 rfl rfl) (by kernel_rfl) rfl fun a h => ?_
 refine a_hoist (i := 3) h rfl rfl rfl rfl (fun w => v_fieldAddr rfl underlying102 rfl sizeOf49 rfl rfl) (by kernel_rfl) rfl fun a h => ?_
 refine a_two (i := 1) (j := 4) (by kernel_rfl) rfl rfl (R1.val h rfl (l1 H 1 isAgg49)) (R1.val h rfl (l1 H 2 isAgg49)) ?_ ?_
 have h := h.put (d := 25) rfl (v16_16_1)
 have H0 := H
 have h0 := h
 obtain ⟨v1, w1, hR, H⟩ := r_app (ops := _) (P := Tryz.prog) (x := .const (.slice none 0 0)) (y := .tmp 25) (dn := 26) (enc := cL) (out := []) (data := z15.v) h H 3 rfl rfl underlying49 underlying49 app28 rfl rfl rfl r16_16_1 (fun _ => rfl) (fun _ _ => rfl) c31
 refine a_two (i := 2) (j := 4) (by kernel_rfl) rfl rfl hR (R1.val h0 rfl (l1 H0 2 isAgg49)) ?_ ?_
 have h := h.put (d := 26) rfl (v1)
 refine a_one (i := 4) (by kernel_rfl) rfl (R1.val h rfl (l1 H 2 isAgg49)) rfl ?_
 have h := h.put (d := 28) rfl (v22_28_1)
 obtain ⟨v2, w2, hR, H⟩ := r_app (ops := _) (P := Tryz.prog) (x := .tmp 26) (y := .tmp 28) (dn := 29) (enc := cL) (out := z15.v) (data := z27.v) h H 3 rfl rfl underlying49 underlying49 app28 rfl rfl rfl r22_28_1 (fun _ => rfl) (fun _ _ => rfl) c32
 refine a_one (i := 5) (by kernel_rfl) rfl hR rfl ?_
 have h := h.put (d := 29) rfl (v2)
 refine a_one (i := 6) (by kernel_rfl) rfl (R1.val h rfl (v_assign rfl)) rfl ?_
 have h := h.put (d := 11) rfl (v2)
 refine a_end (by kernel_rfl) ?_
 rw [← ezapp_33] at H
 exact fin_30 _ _ ⟨v2, H, h.only [1, 6, 8, 10, 11, 12, 13, 14, 18, 19, 20] rfl⟩
 have h := h0
 have H := H0
 have h := h.put (d := 28) rfl (v22_28_1)
 obtain ⟨v1, w1, hR, H⟩ := r_app (ops := _) (P := Tryz.prog) (x := .const (.slice none 0 0)) (y := .tmp 25) (dn := 26) (enc := cL) (out := []) (data := z15.v) h H 3 rfl rfl underlying49 underlying49 app28 rfl rfl rfl r16_16_1 (fun _ => rfl) (fun _ _ => rfl) c31
 refine a_one (i := 2) (by kernel_rfl) rfl hR rfl ?_
 have h := h.put (d := 26) rfl (v1)
 obtain ⟨v2, w2, hR, H⟩ := r_app (ops := _) (P := Tryz.prog) (x := .tmp 26) (y := .tmp 28) (dn := 29) (enc := cL) (out := z15.v) (data := z27.v) h H 3 rfl rfl underlying49 underlying49 app28 rfl rfl rfl r22_28_1 (fun _ => rfl) (fun _ _ => rfl) c32
 refine a_one (i := 5) (by kernel_rfl) rfl hR rfl ?_
 have h := h.put (d := 29) rfl (v2)
 refine a_one (i := 6) (by kernel_rfl) rfl (R1.val h rfl (v_assign rfl)) rfl ?_
 have h := h.put (d := 11) rfl (v2)
 refine a_end (by kernel_rfl) ?_
 rw [← ezapp_33] at H
 exact fin_30 _ _ ⟨v2, H, h.only [1, 6, 8, 10, 11, 12, 13, 14, 18, 19, 20] rfl⟩
 have h := h.put (d := 28) rfl (v22_28_1)
 refine a_one (i := 1) (by kernel_rfl) rfl (R1.val h rfl (l1 H 1 isAgg49)) rfl ?_
 have h := h.put (d := 25) rfl (v16_16_1)
 obtain ⟨v1, w1, hR, H⟩ := r_app (ops := _) (P := Tryz.prog) (x := .const (.slice none 0 0)) (y := .tmp 25) (dn := 26) (enc := cL) (out := []) (data := z15.v) h H 3 rfl rfl underlying49 underlying49 app28 rfl rfl rfl r16_16_1 (fun _ => rfl) (fun _ _ => rfl) c31
 refine a_one (i := 2) (by kernel_rfl) rfl hR rfl ?_
 have h := h.put (d := 26) rfl (v1)
 obtain ⟨v2, w2, hR, H⟩ := r_app (ops := _) (P := Tryz.prog) (x := .tmp 26) (y := .tmp 28) (dn := 29) (enc := cL) (out := z15.v) (data := z27.v) h H 3 rfl rfl underlying49 underlying49 app28 rfl rfl rfl r22_28_1 (fun _ => rfl) (fun _ _ => rfl) c32
 refine a_one (i := 5) (by kernel_rfl) rfl hR rfl ?_
 have h := h.put (d := 29) rfl (v2)
 refine a_one (i := 6) (by kernel_rfl) rfl (R1.val h rfl (v_assign rfl)) rfl ?_
 have h := h.put (d := 11) rfl (v2)
 refine a_end (by kernel_rfl) ?_
 rw [← ezapp_33] at H
 exact fin_30 _ _ ⟨v2, H, h.only [1, 6, 8, 10, 11, 12, 13, 14, 18, 19, 20] rfl⟩
 refine c_exit ?_
 refine cO h [1, 6, 12, 13, 14] [_, _, _, _, _] fun h => ?_
 refine c_lregion ?_
 refine sI h hS rfl (v_addw rfl rfl) fun z43 e43 hS a h => ?_
 refine cps 1 h rfl fun a h => ?_
 refine c_lnil ?_
 exact exL (ex4 ⟨lpN en7 hS, h.to, (H.keepN 1 rfl), el0, rp1, rp0⟩)
 exact c_exit (ex4 ⟨hS, h.to, H, el0⟩)
theorem poly_Print_ok {x0 : List (T)} {res : (List UInt8)} {w0 : World} (hS : poly_Print x0 = some res) {xv0 : Value} (rp0 : RdN (hz w0) xv0 termEnc x0) (hG : GW w0) : Calls Tryz.prog 46 [xv0].toArray w0 (Ret fun v w => v = S res ∧ Ext w0 w) := by
 refine en func46 [0] [_] fun Q a Zi Z hzs H h hr => ?_
 have rp0 := rp0.sub hzs
 clear hzs
 unfold poly_Print at hS
 refine rg fun K k => ?_
 refine cps 1 h rfl fun a h => ?_
 refine cz k ?_
 refine sq ?_
 refine rg fun K k => ?_
 refine cps 1 h rfl fun a h => ?_
 refine s1 h rfl (v_lenN underlying42 rfl rp0 H.zin) fun a h => ?_
 refine sB h hS rfl (v_eq rfl rfl) fun z2 e2 hS a h => ?_
 refine cz k ?_
 refine cI h hS rfl (fun ec3 hS => ?_) fun ec3 hS => ?_
 refine rg fun K k => ?_
 refine cps 1 h rfl fun a h => ?_
 refine cN k h [2] [_] fun h => ?_
 cases hS
 refine r1 hr h rfl rfl ⟨rfl, H.out⟩
 refine c_skip ?_
 refine cO h [0] [_] fun h => ?_
 refine rg fun K k => ?_
 refine cps 1 h rfl fun a h => ?_
 refine cz k ?_
 obtain ⟨J5, eJ5, hS⟩ := bv hS
 refine sqJ (fun a w => ∃ (Z : FZ) (s5 : (List UInt8)), J5 s5 = some res ∧ Fr 61 [(3, S s5)] a ∧ HZ w0 Zi Z [] w) ?_ ?_
 rintro a w ⟨Z, s5, hS, h, H⟩
 subst eJ5
 refine rg fun K k => ?_
 refine cps 2 h rfl fun a h => ?_
 refine cz k ?_
 cases hS
 refine r1 hr h rfl rfl ⟨rfl, H.out⟩
 refine rg fun K k => ?_
 refine cps 1 h rfl fun a h => ?_
 refine s1 h rfl (v_lenN underlying42 rfl rp0 H.zin) fun a h => ?_
 refine cps 1 h rfl fun a h => ?_
 refine cz k ?_
 refine lb ?_
 obtain ⟨B7, eB7, hS⟩ := bv hS
 refine lpJ (fun mu_ a w => ∃ (Z : FZ) (s7 : (List UInt8) × Int), loopF B7 mu_ s7 = some res ∧ Fr 61 [(3, S s7.1), (11, xv0), (12, .int .i64 (x0.length : Int)), (13, .int .i64 s7.2)] a ∧ HZ w0 Zi Z [] w ∧ RdN Z xv0 termEnc x0) KK ⟨_, _, hS, h.to, H, rp0⟩ ?_
 rintro mu_ a w ⟨Z, s7, hS, h, H, rp0⟩
 obtain ⟨mu_, rfl, n7, en7, hS⟩ := lpX eB7 hS
 refine rg fun K k => ?_
 refine sB h hS rfl (v_lt rfl rfl) fun z9 e9 hS a h => ?_
 refine cz k ?_
 refine sq ?_
 refine cI h hS rfl (fun ec11 hS => ?_) fun ec11 hS => ?_
 refine c_skip ?_
 refine sb ?_
 refine rg fun K k => ?_
 refine cps 1 h rfl fun a h => ?_
 obtain ⟨c13, hS⟩ := ck hS
 obtain ⟨z14, e14, hS⟩ := bv hS
 have q_15 := rp0.gel ⟨_, termEnc_dflt⟩ s7.2
 rw [← e14] at q_15
 obtain ⟨css_15, cl_15, rc_15, hc_15, v16_15_1, hcs_15, r16_15_1⟩ := q_15
 refine st_idxC h underlying42 sizeOf102 rfl rfl (rc_15.at H.zin) c13.1 (hc_15 c13) hcs_15 rfl fun a v16 A16 h => ?_
 refine s1 h rfl (v_loadAtA [_, _] rfl A16 isAgg102 sizeOf102 rfl rfl) fun a h => ?_
 refine zA h H zeroValue102 [_, _] (fun x => [x]) fun a p16 w X H h => ?_
 have A16 := At.ext A16 X
 refine cps 1 h rfl fun a h => ?_
 refine z_store h H 0 rfl rfl rfl sizeOf102 [_, _] rfl rfl (by obtain ⟨_, _, _, e_⟩ := (r16_15_1).form; subst e_; rfl) (by simp) [_, _] rfl (hl' := [_]) rfl fun w H => ?_
 refine cz k ?_
 obtain ⟨J18, eJ18, hS⟩ := bv hS
 refine sqJ (fun a w => ∃ (Z : FZ) (s18 : (List UInt8)), J18 s18 = some res ∧ Fr 61 [(3, S s18), (5, .pointer (some ⟨p16, 0, none⟩)), (11, xv0), (12, .int .i64 (x0.length : Int)), (13, .int .i64 s7.2)] a ∧ HZ w0 Zi Z [.blk p16 (Cel [.int .i64 z14.n, v16_15_1] 102)] w ∧ RdN Z xv0 termEnc x0 ∧ RdZ Z v16_15_1 3 cL z14.v) ?_ ?_
 rintro a w ⟨Z, s18, hS, h, H, rp0, r16_15_1⟩
 subst eJ18
 obtain ⟨J20, eJ20, hS⟩ := bv hS
 refine sqJ (fun a w => ∃ (Z : FZ) (s20 : (List UInt8)), J20 s20 = some res ∧ Fr 61 [(3, S s20), (5, .pointer (some ⟨p16, 0, none⟩)), (11, xv0), (12, .int .i64 (x0.length : Int)), (13, .int .i64 s7.2)] a ∧ HZ w0 Zi Z [.blk p16 (Cel [.int .i64 z14.n, v16_15_1] 102)] w ∧ RdN Z xv0 termEnc x0 ∧ RdZ Z v16_15_1 3 cL z14.v) ?_ ?_
 rintro a w ⟨Z, s20, hS, h, H, rp0, r16_15_1⟩
 subst eJ20
 refine rg fun K k => ?_
 refine s1 h rfl (v_fieldAddr rfl underlying102 rfl sizeOf49 rfl rfl) fun a h => ?_
 refine s1 h rfl (l1 H 0 isAgg49) fun a h => ?_
 refine s1 h rfl (v_len underlying49 rfl (r16_15_1.at H.zin)) fun a h => ?_
 refine cps 1 h rfl fun a h => ?_
 refine cz k ?_
 refine lb ?_
 obtain ⟨B22, eB22, hS⟩ := bv hS
 refine lpJ (fun mu_ a w => ∃ (Z : FZ) (s22 : (List UInt8) × Int), loopF B22 mu_ s22 = some res ∧ Fr 61 [(3, S s22.1), (11, xv0), (12, .int .i64 (x0.length : Int)), (13, .int .i64 s7.2), (43, v16_15_1), (44, .int .i64 (z14.v.length : Int)), (45, .int .i64 s22.2)] a ∧ HZ w0 Zi Z [.blk p16 (Cel [.int .i64 z14.n, v16_15_1] 102)] w ∧ RdN Z xv0 termEnc x0 ∧ RdZ Z v16_15_1 3 cL z14.v) KK ⟨_, _, hS, h.to, H, rp0, r16_15_1⟩ ?_
 rintro mu_ a w ⟨Z, s22, hS, h, H, rp0, r16_15_1⟩
 obtain ⟨mu_, rfl, n22, en22, hS⟩ := lpX eB22 hS
 refine rg fun K k => ?_
 refine sB h hS rfl (v_lt rfl rfl) fun z24 e24 hS a h => ?_
 refine cz k ?_
 refine sq ?_
 refine cI h hS rfl (fun ec26 hS => ?_) fun ec26 hS => ?_
 refine c_skip ?_
 refine sb ?_
 refine rg fun K k => ?_
 refine cps 1 h rfl fun a h => ?_
 obtain ⟨c28, hS⟩ := ck hS
 obtain ⟨z29, e29, hS⟩ := bv hS
 refine st_idx h underlying49 sizeOf28 rfl rfl (r16_15_1.at H.zin) (fun _ => rfl) z29 c28.1 (by rw [e29]; exact gel_some c28) rfl fun a v48 A48 h => ?_
 refine s1 h rfl (v_loadAtA [_, _, _] rfl A48 isAgg28 sizeOf28 rfl rfl) fun a h => ?_
 refine zA h H zeroValue28 [_, _, _] (fun x => [_, x]) fun a p30 w X H h => ?_
 have A48 := At.ext A48 X
 refine cps 1 h rfl fun a h => ?_
 refine zS h H 1 sizeOf28 [_, _, _] [_, _, _] [_, _] fun w H => ?_
 refine cz k ?_
 obtain ⟨J32, eJ32, hS⟩ := bv hS
 refine sqJ (fun a w => ∃ (Z : FZ) (s32 : (List UInt8)), J32 s32 = some res ∧ Fr 61 [(3, S s32), (7, .pointer (some ⟨p30, 0, none⟩)), (11, xv0), (12, .int .i64 (x0.length : Int)), (13, .int .i64 s7.2), (43, v16_15_1), (44, .int .i64 (z14.v.length : Int)), (45, .int .i64 s22.2)] a ∧ HZ w0 Zi Z [.blk p16 (Cel [.int .i64 z14.n, v16_15_1] 102), .blk p30 (Cel [.int .i64 z29.s, .int .i64 z29.c, .int .i64 z29.r] 28)] w ∧ RdN Z xv0 termEnc x0 ∧ RdZ Z v16_15_1 3 cL z14.v) ?_ ?_
 rintro a w ⟨Z, s32, hS, h, H, rp0, r16_15_1⟩
 subst eJ32
 refine c_lregion ?_
 refine cps 1 h rfl fun a h => ?_
 refine s1 h rfl (lA H 1 isAgg28 sizeOf28 [_, _, _]) fun a h => ?_
 refine sC h H hS rfl (fun y33 f33 => dC call76 (addr_Print_ok f33 (hG.ext H.out) :)) fun y33 hS w X H a h => ?_
 obtain ⟨c34, hS⟩ := ck hS
 refine sS h hS rfl (v_sadd rfl rfl c34) fun z35 e35 hS a h => ?_
 refine cps 1 h rfl fun a h => ?_
 refine c_lnil ?_
 refine cO h [3, 11, 12, 13, 43, 44, 45] [_, _, _, _, _, _, _] fun h => ?_
 refine c_lregion ?_
 refine sI h hS rfl (v_addw rfl rfl) fun z36 e36 hS a h => ?_
 refine cps 1 h rfl fun a h => ?_
 refine c_lnil ?_
 exact exL (ex2 ⟨lpN en22 hS, h.to, (H.keepN 1 rfl), rp0, r16_15_1⟩)
 refine rg fun K k => ?_
 refine cps 1 h rfl fun a h => ?_
 refine sB h hS rfl (v_gt rfl rfl) fun z37 e37 hS a h => ?_
 refine cN k h [3, 7, 11, 12, 13, 43, 44, 45, 51] [_, _, _, _, _, _, _, _, _] fun h => ?_
 refine cI h hS rfl (fun ec38 hS => ?_) fun ec38 hS => ?_
 refine c_lregion ?_
 refine cps 1 h rfl fun a h => ?_
 obtain ⟨c39, hS⟩ := ck hS
 refine sS h hS rfl (v_sadd rfl rfl c39) fun z40 e40 hS a h => ?_
 refine cps 1 h rfl fun a h => ?_
 refine c_lnil ?_
 exact ex2 ⟨hS, h.to, H, rp0, r16_15_1⟩
 exact c_skip (ex2 ⟨hS, h.to, H, rp0, r16_15_1⟩)
 refine c_exit ?_
 refine cO h [3, 11, 12, 13] [_, _, _, _] fun h => ?_
 refine c_lregion ?_
 refine sI h hS rfl (v_addw rfl rfl) fun z41 e41 hS a h => ?_
 refine cps 1 h rfl fun a h => ?_
 refine c_lnil ?_
 exact exL (ex2 ⟨lpN en7 hS, h.to, (H.keepN 0 rfl), rp0⟩)
 refine rg fun K k => ?_
 refine s1 h rfl (v_fieldAddr rfl underlying102 rfl sizeOf2 rfl rfl) fun a h => ?_
 refine s1 h rfl (l1 H 0 isAgg2) fun a h => ?_
 refine sB h hS rfl (v_ne rfl rfl) fun z42 e42 hS a h => ?_
 refine cps 1 h rfl fun a h => ?_
 refine st_g h rfl rfl (gF rfl) rfl rfl (fun e0 => v_fieldAddr rfl underlying102 rfl sizeOf49 rfl rfl) fun a h => ?_
 refine st_g h rfl rfl (gF rfl) rfl rfl (fun e0 => v_load1 (eg e0 rfl) isAgg49 (H.hp.get 0 rfl) rfl) fun a h => ?_
 refine st_g h rfl rfl (gF rfl) rfl rfl (fun e0 => v_len underlying49 (eg e0 rfl) (r16_15_1.at H.zin)) fun a h => ?_
 obtain ⟨z43, e43, hS⟩ := bv hS
 refine st_g h rfl rfl (gF rfl) rfl rfl (fun e0 => vB e43 (v_eq (eg e0 rfl) rfl)) fun a h => ?_
 refine sB h hS rfl (v_or rfl rfl) fun z44 e44 hS a h => ?_
 refine cN k h [3, 5, 11, 12, 13, 30] [_, _, _, _, _, _] fun h => ?_
 refine cI h hS rfl (fun ec45 hS => ?_) fun ec45 hS => ?_
 refine rg fun K k => ?_
 refine cps 1 h rfl fun a h => ?_
 refine s1 h rfl (v_fieldAddr rfl underlying102 rfl sizeOf2 rfl rfl) fun a h => ?_
 refine s1 h rfl (l1 H 0 isAgg2) fun a h => ?_
 obtain ⟨c47, hS⟩ := ck hS
 obtain ⟨z48, e48, hS⟩ := bv hS
 refine st2v (T := Ext) (V := S z48) h rfl rfl rfl ((by rw [e48]; exact dC call75 (lib_formatInt c47 (hG.ext H.out)))) fun w X a h => ?_
 have H := H.ext X
 obtain ⟨c49, hS⟩ := ck hS
 refine sS h hS rfl (v_sadd rfl rfl c49) fun z50 e50 hS a h => ?_
 refine cps 1 h rfl fun a h => ?_
 refine cN k h [3, 5, 11, 12, 13] [_, _, _, _, _] fun h => ?_
 refine rg fun K k => ?_
 refine s1 h rfl (v_fieldAddr rfl underlying102 rfl sizeOf49 rfl rfl) fun a h => ?_
 refine s1 h rfl (l1 H 0 isAgg49) fun a h => ?_
 refine s1 h rfl (v_len underlying49 rfl (r16_15_1.at H.zin)) fun a h => ?_
 refine sB h hS rfl (v_gt rfl rfl) fun z51 e51 hS a h => ?_
 refine cz k ?_
 refine cI h hS rfl (fun ec52 hS => ?_) fun ec52 hS => ?_
 refine c_lregion ?_
 refine cps 1 h rfl fun a h => ?_
 obtain ⟨c53, hS⟩ := ck hS
 refine sS h hS rfl (v_sadd rfl rfl c53) fun z54 e54 hS a h => ?_
 refine cps 1 h rfl fun a h => ?_
 refine c_lnil ?_
 exact ex2 ⟨hS, h.to, H, rp0, r16_15_1⟩
 exact c_skip (ex2 ⟨hS, h.to, H, rp0, r16_15_1⟩)
 exact c_skip (ex2 ⟨hS, h.to, H, rp0, r16_15_1⟩)
 refine rg fun K k => ?_
 refine cps 1 h rfl fun a h => ?_
 refine sB h hS rfl (v_gt rfl rfl) fun z55 e55 hS a h => ?_
 refine cN k h [3, 5, 11, 12, 13, 19] [_, _, _, _, _, _] fun h => ?_
 refine cI h hS rfl (fun ec56 hS => ?_) fun ec56 hS => ?_
 refine c_lregion ?_
 refine cps 1 h rfl fun a h => ?_
 obtain ⟨c57, hS⟩ := ck hS
 refine sS h hS rfl (v_sadd rfl rfl c57) fun z58 e58 hS a h => ?_
 refine cps 1 h rfl fun a h => ?_
 refine c_lnil ?_
 exact ex2 ⟨hS, h.to, H, rp0, r16_15_1⟩
 exact c_skip (ex2 ⟨hS, h.to, H, rp0, r16_15_1⟩)
 exact c_exit (ex2 ⟨hS, h.to, H⟩)
theorem poly_Num_ok {x0 : List (T)} {x1 : C → Option (Int)} {res : Int × Bool} {w0 : World} (hS : poly_Num x0 x1 = some res) {Z : FZ} (hZ : Z.inn w0) {xv0 : Value} (rp0 : RdN Z xv0 termEnc x0) {fi1 : FuncId} {cp1 : Array Value} (hf1 : FnR Tryz.prog fi1 cp1 Z (fun c : C => [.agg #[.int .i64 c.s, .int .i64 c.c, .int .i64 c.r]]) (fun r : Int => .int .i64 r) x1) : Calls Tryz.prog 16 [xv0, .func (.func fi1) #[] cp1].toArray w0 (Ret fun v w => v = .tuple #[.int .i64 res.1, .bool res.2] ∧ Ext w0 w) := by
 refine enS hZ func16 [0, 1] [_, _] fun Q a Zi eZi H h hr => ?_
 try rw [← eZi] at hr
 rw [← eZi] at hf1
 clear eZi
 unfold poly_Num at hS
 refine rg fun K k => ?_
 refine cps 2 h rfl fun a h => ?_
 refine cz k ?_
 refine rg fun K k => ?_
 refine cps 1 h rfl fun a h => ?_
 refine cz k ?_
 obtain ⟨J2, eJ2, hS⟩ := bv hS
 refine sqJ (fun a w => ∃ (Z : FZ) (s2 : Int), J2 s2 = some res ∧ Fr 62 [(6, .int .i64 s2)] a ∧ HZ w0 Zi Z [] w) ?_ ?_
 rintro a w ⟨Z, s2, hS, h, H⟩
 subst eJ2
 refine rg fun K k => ?_
 refine cps 3 h rfl fun a h => ?_
 refine cz k ?_
 cases hS
 refine r2 hr h rfl rfl rfl ⟨rfl, H.out⟩
 refine rg fun K k => ?_
 refine cps 1 h rfl fun a h => ?_
 refine s1 h rfl (v_lenN underlying42 rfl rp0 H.zin) fun a h => ?_
 refine cps 1 h rfl fun a h => ?_
 refine cz k ?_
 refine lb ?_
 obtain ⟨B4, eB4, hS⟩ := bv hS
 refine lpJ (fun mu_ a w => ∃ (Z : FZ) (s4 : Int × Int), loopF B4 mu_ s4 = some res ∧ Fr 62 [(1, .func (.func fi1) #[] cp1), (6, .int .i64 s4.1), (15, xv0), (16, .int .i64 (x0.length : Int)), (17, .int .i64 s4.2)] a ∧ HZ w0 Zi Z [] w ∧ RdN Z xv0 termEnc x0) KK ⟨_, _, hS, h.to, H, rp0⟩ ?_
 rintro mu_ a w ⟨Z, s4, hS, h, H, rp0⟩
 obtain ⟨mu_, rfl, n4, en4, hS⟩ := lpX eB4 hS
 refine rg fun K k => ?_
 refine sB h hS rfl (v_lt rfl rfl) fun z6 e6 hS a h => ?_
 refine cz k ?_
 refine sq ?_
 refine cI h hS rfl (fun ec8 hS => ?_) fun ec8 hS => ?_
 refine c_skip ?_
 refine sb ?_
 refine rg fun K k => ?_
 obtain ⟨c10, hS⟩ := ck hS
 obtain ⟨z11, e11, hS⟩ := bv hS
 have q_12 := rp0.gel ⟨_, termEnc_dflt⟩ s4.2
 rw [← e11] at q_12
 obtain ⟨css_12, cl_12, rc_12, hc_12, v19_12_1, hcs_12, r19_12_1⟩ := q_12
 refine st_idxC h underlying42 sizeOf102 rfl rfl (rc_12.at H.zin) c10.1 (hc_12 c10) hcs_12 rfl fun a v19 A19 h => ?_
 refine s1 h rfl (v_loadAtA [_, _] rfl A19 isAgg102 sizeOf102 rfl rfl) fun a h => ?_
 refine zA h H zeroValue102 [_, _] (fun x => [x]) fun a p13 w X H h => ?_
 have A19 := At.ext A19 X
 refine z_store h H 0 rfl rfl rfl sizeOf102 [_, _] rfl rfl (by obtain ⟨_, _, _, e_⟩ := (r19_12_1).form; subst e_; rfl) (by simp) [_, _] rfl (hl' := [_]) rfl fun w H => ?_
 refine cz k ?_
 refine rg fun K k => ?_
 refine s1 h rfl (v_fieldAddr rfl underlying102 rfl sizeOf2 rfl rfl) fun a h => ?_
 refine s1 h rfl (l1 H 0 isAgg2) fun a h => ?_
 refine sC h H hS rfl (fun y14 f14 => dC call55 (num_Of_ok f14 :)) fun y14 hS w X H a h => ?_
 refine cps 5 h rfl fun a h => ?_
 refine cN k h [1, 6, 8, 9, 10, 15, 16, 17] [_, _, _, _, _, _, _, _] fun h => ?_
 obtain ⟨J16, eJ16, hS⟩ := bv hS
 refine sqJ (fun a w => ∃ (Z : FZ) (s16 : Int × Bool), J16 s16 = some res ∧ Fr 62 [(1, .func (.func fi1) #[] cp1), (6, .int .i64 s4.1), (9, .int .i64 s16.1), (10, .bool s16.2), (15, xv0), (16, .int .i64 (x0.length : Int)), (17, .int .i64 s4.2)] a ∧ HZ w0 Zi Z [.blk p13 (Cel [.int .i64 z11.n, v19_12_1] 102)] w ∧ RdN Z xv0 termEnc x0 ∧ RdZ Z v19_12_1 3 cL z11.v) ?_ ?_
 rintro a w ⟨Z, s16, hS, h, H, rp0, r19_12_1⟩
 subst eJ16
 obtain ⟨J18, eJ18, hS⟩ := bv hS
 refine sqJ (fun a w => ∃ (Z : FZ) (s18 : Int × Bool), J18 s18 = some res ∧ Fr 62 [(1, .func (.func fi1) #[] cp1), (6, .int .i64 s18.1), (10, .bool s18.2), (15, xv0), (16, .int .i64 (x0.length : Int)), (17, .int .i64 s4.2)] a ∧ HZ w0 Zi Z [.blk p13 (Cel [.int .i64 z11.n, v19_12_1] 102)] w ∧ RdN Z xv0 termEnc x0 ∧ RdZ Z v19_12_1 3 cL z11.v) ?_ ?_
 rintro a w ⟨Z, s18, hS, h, H, rp0, r19_12_1⟩
 subst eJ18
 refine rg fun K k => ?_
 refine cps 1 h rfl fun a h => ?_
 refine sB h hS rfl (v_not rfl) fun z19 e19 hS a h => ?_
 refine cz k ?_
 refine cI h hS rfl (fun ec20 hS => ?_) fun ec20 hS => ?_
 refine rg fun K k => ?_
 refine cps 2 h rfl fun a h => ?_
 refine cN k h [4, 5] [_, _] fun h => ?_
 cases hS
 refine r2 hr h rfl rfl rfl ⟨rfl, H.out⟩
 refine c_skip ?_
 refine c_lregion ?_
 refine sI h hS rfl (v_addw rfl rfl) fun z21 e21 hS a h => ?_
 refine cps 1 h rfl fun a h => ?_
 refine c_lnil ?_
 exact exL (ex2 ⟨lpN en4 hS, h.to, (H.keepN 0 rfl), rp0⟩)
 refine rg fun K k => ?_
 refine cps 1 h rfl fun a h => ?_
 refine cz k ?_
 refine cI h hS rfl (fun ec22 hS => ?_) fun ec22 hS => ?_
 refine c_lregion ?_
 refine cps 2 h rfl fun a h => ?_
 refine sC h H hS rfl (fun y23 f23 => dC call57 (num_Add_ok f23 :)) fun y23 hS w X H a h => ?_
 refine cps 5 h rfl fun a h => ?_
 refine c_lnil ?_
 exact ex2 ⟨hS, h.to, H, rp0, r19_12_1⟩
 exact c_skip (ex2 ⟨hS, h.to, H, rp0, r19_12_1⟩)
 refine rg fun K k => ?_
 refine s1 h rfl (v_fieldAddr rfl underlying102 rfl sizeOf49 rfl rfl) fun a h => ?_
 refine s1 h rfl (l1 H 0 isAgg49) fun a h => ?_
 refine s1 h rfl (v_len underlying49 rfl (r19_12_1.at H.zin)) fun a h => ?_
 refine cps 1 h rfl fun a h => ?_
 refine cz k ?_
 refine lb ?_
 obtain ⟨B25, eB25, hS⟩ := bv hS
 refine lpJ (fun mu_ a w => ∃ (Z : FZ) (s25 : Int × Bool × Int), loopF B25 mu_ s25 = some res ∧ Fr 62 [(1, .func (.func fi1) #[] cp1), (6, .int .i64 s4.1), (9, .int .i64 s25.1), (10, .bool s25.2.1), (15, xv0), (16, .int .i64 (x0.length : Int)), (17, .int .i64 s4.2), (28, v19_12_1), (29, .int .i64 (z11.v.length : Int)), (30, .int .i64 s25.2.2)] a ∧ HZ w0 Zi Z [.blk p13 (Cel [.int .i64 z11.n, v19_12_1] 102)] w ∧ RdN Z xv0 termEnc x0 ∧ RdZ Z v19_12_1 3 cL z11.v) KK ⟨_, _, hS, h.to, H, rp0, r19_12_1⟩ ?_
 rintro mu_ a w ⟨Z, s25, hS, h, H, rp0, r19_12_1⟩
 obtain ⟨mu_, rfl, n25, en25, hS⟩ := lpX eB25 hS
 refine rg fun K k => ?_
 refine sB h hS rfl (v_lt rfl rfl) fun z27 e27 hS a h => ?_
 refine cz k ?_
 refine sq ?_
 refine cI h hS rfl (fun ec29 hS => ?_) fun ec29 hS => ?_
 refine c_skip ?_
 refine sb ?_
 refine rg fun K k => ?_
 obtain ⟨c31, hS⟩ := ck hS
 obtain ⟨z32, e32, hS⟩ := bv hS
 refine st_idx h underlying49 sizeOf28 rfl rfl (r19_12_1.at H.zin) (fun _ => rfl) z32 c31.1 (by rw [e32]; exact gel_some c31) rfl fun a v32 A32 h => ?_
 refine s1 h rfl (v_loadAtA [_, _, _] rfl A32 isAgg28 sizeOf28 rfl rfl) fun a h => ?_
 refine zA h H zeroValue28 [_, _, _] (fun x => [_, x]) fun a p33 w X H h => ?_
 have A32 := At.ext A32 X
 refine zS h H 1 sizeOf28 [_, _, _] [_, _, _] [_, _] fun w H => ?_
 refine cz k ?_
 refine rg fun K k => ?_
 refine cps 1 h rfl fun a h => ?_
 refine cz k ?_
 refine cI h hS rfl (fun ec34 hS => ?_) fun ec34 hS => ?_
 refine rg fun K k => ?_
 refine cps 1 h rfl fun a h => ?_
 refine s1 h rfl (lA H 1 isAgg28 sizeOf28 [_, _, _]) fun a h => ?_
 refine sC h H hS rfl (fun y35 f35 => d_fn hf1 H.zini rfl (c := z32) rfl f35) fun y35 hS w X H a h => ?_
 refine sC h H hS rfl (fun y36 f36 => dC call55 (num_Of_ok f36 :)) fun y36 hS w X H a h => ?_
 refine cps 5 h rfl fun a h => ?_
 refine cN k h [1, 6, 9, 13, 14, 15, 16, 17, 28, 29, 30] [_, _, _, _, _, _, _, _, _, _, _] fun h => ?_
 refine rg fun K k => ?_
 refine cps 2 h rfl fun a h => ?_
 refine sC h H hS rfl (fun y37 f37 => dC call56 (num_Mul_ok f37 :)) fun y37 hS w X H a h => ?_
 refine cps 5 h rfl fun a h => ?_
 refine cN k h [1, 6, 9, 10, 14, 15, 16, 17, 28, 29, 30] [_, _, _, _, _, _, _, _, _, _, _] fun h => ?_
 refine rg fun K k => ?_
 refine cps 1 h rfl fun a h => ?_
 refine sB h hS rfl (v_not rfl) fun z38 e38 hS a h => ?_
 refine cz k ?_
 refine cI h hS rfl (fun ec39 hS => ?_) fun ec39 hS => ?_
 refine c_lregion ?_
 refine cps 1 h rfl fun a h => ?_
 refine c_lnil ?_
 refine c_lregion ?_
 refine sI h hS rfl (v_addw rfl rfl) fun z40 e40 hS a h => ?_
 refine cps 1 h rfl fun a h => ?_
 refine c_lnil ?_
 exact exL (ex2 ⟨lpN en25 hS, h.to, (H.keepN 1 rfl), rp0, r19_12_1⟩)
 refine c_skip ?_
 refine c_lregion ?_
 refine sI h hS rfl (v_addw rfl rfl) fun z41 e41 hS a h => ?_
 refine cps 1 h rfl fun a h => ?_
 refine c_lnil ?_
 exact exL (ex2 ⟨lpN en25 hS, h.to, (H.keepN 1 rfl), rp0, r19_12_1⟩)
 refine c_skip ?_
 refine cO h [1, 6, 9, 10, 15, 16, 17, 28, 29, 30] [_, _, _, _, _, _, _, _, _, _] fun h => ?_
 refine c_lregion ?_
 refine sI h hS rfl (v_addw rfl rfl) fun z42 e42 hS a h => ?_
 refine cps 1 h rfl fun a h => ?_
 refine c_lnil ?_
 exact exL (ex2 ⟨lpN en25 hS, h.to, (H.keepN 1 rfl), rp0, r19_12_1⟩)
 exact c_exit (ex2 ⟨hS, h.to, H, rp0, r19_12_1⟩)
 exact c_exit (ex2 ⟨hS, h.to, H⟩)
theorem reckonerlaw15_fit_ok  {res : Bool} {w0 : World} (hS : reckonerlaw15_fit  = some res) (hG : GW w0) : Calls Tryz.prog 12 [].toArray w0 (Ret fun v w => v = .bool res ∧ Ext w0 w) := by
 refine en func12 [] [] fun Q a Zi Z hzs H h hr => ?_
 clear hzs
 unfold reckonerlaw15_fit at hS
 refine rg fun K k => ?_
 refine cps 1 h rfl fun a h => ?_
 refine cz k ?_
 refine rg fun K k => ?_
 refine s1 h rfl (v_build bld28 [] [_, _, _] rfl rfl) fun a h => ?_
 obtain ⟨y1, f1, hS⟩ := bo hS
 refine st2 h rfl rfl rfl (dC call45 (poly_Var_ok (x0 := (⟨0, 0, 0⟩ : C)) f1 H.zin)) ?_
 rintro v5_3_1 w ⟨r5_3_1, X⟩ a h
 obtain ⟨Z, hsub, hadd, H⟩ := H.adopt' X
 have r5_3_1 := r5_3_1.sub hadd
 refine s1 h rfl (v_build bld28 [] [_, _, _] rfl rfl) fun a h => ?_
 obtain ⟨y4, f4, hS⟩ := bo hS
 refine st2 h rfl rfl rfl (dC call45 (poly_Var_ok (x0 := (⟨0, 0, 0⟩ : C)) f4 H.zin)) ?_
 rintro v7_6_1 w ⟨r7_6_1, X⟩ a h
 obtain ⟨Z, hsub, hadd, H⟩ := H.adopt' X
 have r5_3_1 := r5_3_1.sub hsub
 have r7_6_1 := r7_6_1.sub hadd
 refine z_slice (enc := (Subtype.val (p := fun l : List Value => l.length = 1))) ([⟨[v5_3_1], rfl⟩, ⟨[v7_6_1], rfl⟩] : List (Cl 1)) h H underlying129 sizeOf42 zeroValue42 rfl (zl := [.slice none 0 0, .slice none 0 0]) (by kernel_rfl) (plA_get 2 1) [_, _] [_, _] rfl (by obtain ⟨_, _, _, e_⟩ := (r5_3_1).form; subst e_; obtain ⟨_, _, _, e_⟩ := (r7_6_1).form; subst e_; rfl) rfl rfl rfl fun a v8_7 Z w hsub X H r8_7 h => ?_
 have r5_3_1 := r5_3_1.sub hsub
 have r7_6_1 := r7_6_1.sub hsub
 have r8_7 : RdN Z v8_7 polyEnc [y1, y4] := ⟨_, r8_7, ⟨⟨_, rfl, r5_3_1⟩, ⟨_, rfl, r7_6_1⟩, trivial⟩⟩
 obtain ⟨y8, f8, hS⟩ := bo hS
 refine st2 h rfl rfl rfl (dC call44 (poly_Add_ok (x0 := [y1, y4]) f8 H.zin r8_7)) ?_
 rintro v_ w ⟨v9_9_1, rfl, r9_9_1, X⟩ a h
 obtain ⟨Z, hsub, hadd, H⟩ := H.adopt' X
 have r5_3_1 := r5_3_1.sub hsub
 have r7_6_1 := r7_6_1.sub hsub
 have r8_7 := r8_7.sub hsub
 have r9_9_1 := r9_9_1.sub hadd
 refine cps 5 h rfl fun a h => ?_
 refine cN k h [1, 2] [_, _] fun h => ?_
 refine rg fun K k => ?_
 refine cps 2 h rfl fun a h => ?_
 refine st_g h rfl rfl (gT rfl) rfl rfl (fun e0 => v_move rfl) fun a h => ?_
 obtain ⟨y10, f10, hS⟩ := bo hS
 refine st_gd (T := Ext) (V := S y10) h rfl rfl (gT rfl) rfl rfl (Ext.refl _) (fun e0 => d_call [_] (evs_c (eg e0 rfl) evs_n) call46 (poly_Print_ok (x0 := y8.1) (ifT e0 f10) (r9_9_1.hz H.zin) (hG.ext H.out))) fun w X a h => ?_
 have H := H.ext X
 obtain ⟨z11, e11, hS⟩ := bv hS
 refine st_g h rfl rfl (gT rfl) rfl rfl (fun e0 => vB e11 (v_seq (eg e0 rfl) rfl)) fun a h => ?_
 refine sB h hS rfl (v_and rfl rfl) fun z12 e12 hS a h => ?_
 refine cps 1 h rfl fun a h => ?_
 refine cN k h [0] [_] fun h => ?_
 cases hS
 refine r1 hr h rfl rfl ⟨rfl, H.out⟩
end Go.Proofs.YtcecjdnkcbfhlaaGreatDoor
