/- Joined texts. -/
import Derived.Test.YtcecjdnkcbfhlaaGreatDoorQS0
import Derived.Test.YtcecjdnkcbfhlaaGreatDoorQpWkA
set_option linter.unusedSimpArgs false
set_option linter.unusedVariables false
set_option linter.unusedSectionVars false
namespace Go.Proofs.YtcecjdnkcbfhlaaGreatDoor
open Go.Stp Go.RowKit Go.ValP Go.Sp _root_.Go.Proofs.Tryz
set_option maxRecDepth 100000
theorem slices_swapRangeCmpFunc_Term_ok {x0 : List (T)} {x1 : Int} {x2 : Int} {x3 : Int} {x4 : T → T → Option (Int)} {res : List (T)} {w0 : World} (hS : slices_swapRangeCmpFunc_Term x0 x1 x2 x3 x4 = some res) {Z : FZ} (hZ : Z.inn w0) {xv0 : Value} {cs0 : List (Cl 2)} (rp0 : w0.ownsRow 0 102 2 xv0 cs0.length (cs0.flatMap Subtype.val)) (el0 : EL termEnc Z cs0 x0) (off0 : ∀ b, xv0.ownBlock = some b → Z b = none) {fi4 : FuncId} {cp4 : Array Value} (hf4 : FnE Tryz.prog fi4 cp4 Z termEnc (fun r : Int => .int .i64 r) x4) {B0 : Bs} (eB : B0 = ⟨w0, xv0.ownBlock.toList⟩) {Zi : FZ} (eZ : Zi = Z) : Calls Tryz.prog 250 [xv0, .int .i64 x1, .int .i64 x2, .int .i64 x3, .func (.func fi4) #[] cp4].toArray w0 (Ret fun v w => v = .tuple #[] ∧ ∃ css : List (Cl 2), w.ownsRow 0 102 2 xv0 css.length (css.flatMap Subtype.val) ∧ EL termEnc Zi css res ∧ ExtB B0 w) := by
 have H : HZ B0 Zi Z [.row 102 2 xv0 cs0.length (cs0.flatMap Subtype.val)] w0 := by rw [eB, eZ]; exact HZ.startLR hZ rp0 off0
 refine enG func250 [0, 1, 2, 3] [_, _, _, _] fun Q a h hr hn => ?_
 rw [← eZ] at hf4 el0
 clear eB eZ
 have H : HZ B0 _ _ [_] _ := H
 unfold slices_swapRangeCmpFunc_Term at hS
 refine rg fun K k => ?_
 refine cps 1 h rfl fun a h => ?_
 refine cz k ?_
 refine lb ?_
 obtain ⟨B2, eB2, hS⟩ := bv hS
 refine lpJ (fun mu_ a w => ∃ (Z : FZ) (s2 : Int × (List (T))) (cs4 : List (Cl 2)), loopF B2 mu_ s2 = some res ∧ Fr 38 [(0, xv0), (1, .int .i64 x1), (2, .int .i64 x2), (3, .int .i64 x3), (10, .int .i64 s2.1)] a ∧ HZ B0 Zi Z [.row 102 2 xv0 cs4.length (cs4.flatMap Subtype.val)] w ∧ EL termEnc Zi cs4 s2.2) KK ⟨_, _, _, hS, h.to, H, el0⟩ ?_
 rintro mu_ a w ⟨Z, s2, cs4, hS, h, H, el0⟩
 obtain ⟨mu_, rfl, n2, en2, hS⟩ := lpX eB2 hS
 refine sq ?_
 refine rg fun K k => ?_
 refine cps 2 h rfl fun a h => ?_
 refine sB h hS rfl (v_lt rfl rfl) fun z6 e6 hS a h => ?_
 refine cz k ?_
 refine cI h hS rfl (fun ec7 hS => ?_) fun ec7 hS => ?_
 refine c_skip ?_
 refine sb ?_
 obtain ⟨z9, e9, hS⟩ := bv hS
 obtain ⟨z10, e10, hS⟩ := bv hS
 obtain ⟨c12, hS⟩ := ck hS
 obtain ⟨c13, hS⟩ := ck hS
 obtain ⟨zrow_14, ezrow_14, hS⟩ := bv hS
 have ln_11 : cs4.length = s2.2.length := el0.len
 obtain ⟨gb_11, cap_11, hsv_11⟩ := H.rowPtr (i := 0) rfl (by omega)
 obtain ⟨cI_11, hcI_11, rI_11⟩ := el0.get (gel_some c13)
 obtain ⟨cJ_11, hcJ_11, rJ_11⟩ := el0.get (gel_some c12)
 obtain ⟨cs_11, hb_11, hcl_11, hct_11⟩ := H.openN (i := 0) rfl hsv_11 (by omega)
 have hpI_11 := open_at hct_11 hcI_11
 have hpJ_11 := open_at hct_11 hcJ_11
 have hlI_11 : Int.toNat z9 < cs4.length := by omega
 have hlJ_11 : Int.toNat z10 < cs4.length := by omega
 have p11 := put_take (c := cJ_11) hcl_11 hct_11 hlI_11
 refine c_lany (by kernel_rfl) ?_
 have H := H.ext (Ext.drew w)
 have hb_11 : (w.drew).heap[gb_11]? = some (.cells cs_11.toArray 102 (0, 0)) := hb_11
 have hX : ({ w with drawn := w.drawn + 1 } : World) = w.drew := rfl
 rw [hX]
 clear hX
 generalize w.drew = w at *
 refine a_hoist (i := 0) h rfl rfl rfl rfl (fun w => v_move rfl) (by kernel_rfl) rfl fun a h => ?_
 refine a_hoist (i := 1) h rfl rfl rfl rfl (fun w => v_move rfl) (by kernel_rfl) rfl fun a h => ?_
 refine a_hoist (i := 2) h rfl rfl rfl rfl (fun w => v_move rfl) (by kernel_rfl) rfl fun a h => ?_
 refine a_hoist (i := 3) h rfl rfl rfl rfl (fun w => vI e9 (v_addw rfl rfl)) (by kernel_rfl) rfl fun a h => ?_
 refine a_hoist (i := 4) h rfl rfl rfl rfl (fun w => v_move rfl) (by kernel_rfl) rfl fun a h => ?_
 refine a_hoist (i := 5) h rfl rfl rfl rfl (fun w => v_move rfl) (by kernel_rfl) rfl fun a h => ?_
 refine a_hoist (i := 6) h rfl rfl rfl rfl (fun w => v_move rfl) (by kernel_rfl) rfl fun a h => ?_
 refine a_hoist (i := 7) h rfl rfl rfl rfl (fun w => vI e10 (v_addw rfl rfl)) (by kernel_rfl) rfl fun a h => ?_
 refine a_hoist (i := 8) h rfl rfl rfl rfl (fun w => v_move rfl) (by kernel_rfl) rfl fun a h => ?_
 refine a_hoist (i := 9) h rfl rfl rfl rfl (fun w => v_move rfl) (by kernel_rfl) rfl fun a h => ?_
 refine a_hoist (i := 10) h rfl rfl rfl rfl (fun w => v_move rfl) (by kernel_rfl) rfl fun a h => ?_
 refine a_hoist (i := 11) h rfl rfl rfl rfl (fun w => vI e10 (v_addw rfl rfl)) (by kernel_rfl) rfl fun a h => ?_
 refine a_hoist (i := 12) h rfl rfl rfl rfl (fun w => v_idxRow hsv_11 underlying41 sizeOf102 rfl rfl (by rw [ln_11]; exact c12)) (by kernel_rfl) rfl fun a h => ?_
 refine a_hoist (i := 14) h rfl rfl rfl rfl (fun w => v_move rfl) (by kernel_rfl) rfl fun a h => ?_
 refine a_hoist (i := 15) h rfl rfl rfl rfl (fun w => v_move rfl) (by kernel_rfl) rfl fun a h => ?_
 refine a_hoist (i := 16) h rfl rfl rfl rfl (fun w => v_move rfl) (by kernel_rfl) rfl fun a h => ?_
 refine a_hoist (i := 17) h rfl rfl rfl rfl (fun w => vI e9 (v_addw rfl rfl)) (by kernel_rfl) rfl fun a h => ?_
 refine a_hoist (i := 18) h rfl rfl rfl rfl (fun w => v_idxRow hsv_11 underlying41 sizeOf102 rfl rfl (by rw [ln_11]; exact c13)) (by kernel_rfl) rfl fun a h => ?_
 refine a_two (i := 13) (j := 19) (by kernel_rfl) rfl rfl (R1.val h rfl (v_loadA cJ_11.1 rfl isAgg102 sizeOf102 hb_11 hpJ_11 cJ_11.2)) (R1.val h rfl (v_loadA cI_11.1 rfl isAgg102 sizeOf102 hb_11 hpI_11 cI_11.2)) ?_ ?_
 have h := h.put (d := 29) rfl (.agg cJ_11.1.toArray)
 refine a_one (i := 19) (by kernel_rfl) rfl (R1.val h rfl (v_loadA cI_11.1 rfl isAgg102 sizeOf102 hb_11 hpI_11 cI_11.2)) rfl ?_
 have h := h.put (d := 35) rfl (.agg cI_11.1.toArray)
 refine a_one (i := 20) (by kernel_rfl) rfl (R1.val h rfl (v_idxRow hsv_11 underlying41 sizeOf102 rfl rfl (by rw [ln_11]; exact c13))) rfl ?_
 have h := h.put (d := 36) rfl (.pointer (some ⟨gb_11, Int.toNat z9 * 2, none⟩))
 obtain ⟨w1, hR1, hb1, a1, a2, a3, a4, a5⟩ := r_storeK (ops := _) (P := Tryz.prog) (x := .tmp 36) (y := .tmp 29) (vs := cJ_11.1) h rfl rfl rfl cJ_11.2 ((termEnc).one rJ_11) sizeOf102 hb_11 (row_fit hlI_11 hcl_11)
 refine a_one (i := 21) (by kernel_rfl) rfl hR1 rfl ?_
 refine a_one (i := 22) (by kernel_rfl) rfl (R1.val h rfl (v_idxRow hsv_11 underlying41 sizeOf102 rfl rfl (by rw [ln_11]; exact c12))) rfl ?_
 have h := h.put (d := 37) rfl (.pointer (some ⟨gb_11, Int.toNat z10 * 2, none⟩))
 obtain ⟨w2, hR2, hb2, b1, b2, b3, b4, b5⟩ := r_storeK (ops := _) (P := Tryz.prog) (x := .tmp 37) (y := .tmp 35) (vs := cI_11.1) h rfl rfl rfl cI_11.2 ((termEnc).one rI_11) sizeOf102 hb1 (Nat.le_trans (row_fit hlJ_11 hcl_11) (Nat.le_of_eq p11.2.1.symm))
 refine a_one (i := 23) (by kernel_rfl) rfl hR2 rfl ?_
 refine a_end (by kernel_rfl) ?_
 have H := H.swapN (i := 0) (p := Int.toNat z9) (q := Int.toNat z10) rfl hsv_11 hlI_11 hlJ_11 hb_11 hcl_11 hct_11 hb2 (b1.trans a1) (b2.trans a2) (b3.trans a3) (b4.trans a4) (fun c hc => (b5 c hc).trans (a5 c hc)) (hl' := [_]) rfl
 have el0 := EL.set rI_11 (Int.toNat z10) (EL.set rJ_11 (Int.toNat z9) el0)
 rw [← ezrow_14] at el0
 have h := h.only [0, 1, 2, 3, 10] (l' := [_, _, _, _, _]) rfl
 have H : HZ B0 _ _ [_] _ := H
 generalize w2 = w at h H
 refine c_lregion ?_
 refine cps 1 h rfl fun a h => ?_
 refine sI h hS rfl (v_addw rfl rfl) fun z15 e15 hS a h => ?_
 refine cps 1 h rfl fun a h => ?_
 refine c_lnil ?_
 exact exL (ex3 ⟨lpN en2 hS, h.to, H, el0⟩)
 have h := h.put (d := 35) rfl (.agg cI_11.1.toArray)
 refine a_one (i := 13) (by kernel_rfl) rfl (R1.val h rfl (v_loadA cJ_11.1 rfl isAgg102 sizeOf102 hb_11 hpJ_11 cJ_11.2)) rfl ?_
 have h := h.put (d := 29) rfl (.agg cJ_11.1.toArray)
 refine a_one (i := 20) (by kernel_rfl) rfl (R1.val h rfl (v_idxRow hsv_11 underlying41 sizeOf102 rfl rfl (by rw [ln_11]; exact c13))) rfl ?_
 have h := h.put (d := 36) rfl (.pointer (some ⟨gb_11, Int.toNat z9 * 2, none⟩))
 obtain ⟨w1, hR1, hb1, a1, a2, a3, a4, a5⟩ := r_storeK (ops := _) (P := Tryz.prog) (x := .tmp 36) (y := .tmp 29) (vs := cJ_11.1) h rfl rfl rfl cJ_11.2 ((termEnc).one rJ_11) sizeOf102 hb_11 (row_fit hlI_11 hcl_11)
 refine a_one (i := 21) (by kernel_rfl) rfl hR1 rfl ?_
 refine a_one (i := 22) (by kernel_rfl) rfl (R1.val h rfl (v_idxRow hsv_11 underlying41 sizeOf102 rfl rfl (by rw [ln_11]; exact c12))) rfl ?_
 have h := h.put (d := 37) rfl (.pointer (some ⟨gb_11, Int.toNat z10 * 2, none⟩))
 obtain ⟨w2, hR2, hb2, b1, b2, b3, b4, b5⟩ := r_storeK (ops := _) (P := Tryz.prog) (x := .tmp 37) (y := .tmp 35) (vs := cI_11.1) h rfl rfl rfl cI_11.2 ((termEnc).one rI_11) sizeOf102 hb1 (Nat.le_trans (row_fit hlJ_11 hcl_11) (Nat.le_of_eq p11.2.1.symm))
 refine a_one (i := 23) (by kernel_rfl) rfl hR2 rfl ?_
 refine a_end (by kernel_rfl) ?_
 have H := H.swapN (i := 0) (p := Int.toNat z9) (q := Int.toNat z10) rfl hsv_11 hlI_11 hlJ_11 hb_11 hcl_11 hct_11 hb2 (b1.trans a1) (b2.trans a2) (b3.trans a3) (b4.trans a4) (fun c hc => (b5 c hc).trans (a5 c hc)) (hl' := [_]) rfl
 have el0 := EL.set rI_11 (Int.toNat z10) (EL.set rJ_11 (Int.toNat z9) el0)
 rw [← ezrow_14] at el0
 have h := h.only [0, 1, 2, 3, 10] (l' := [_, _, _, _, _]) rfl
 have H : HZ B0 _ _ [_] _ := H
 generalize w2 = w at h H
 refine c_lregion ?_
 refine cps 1 h rfl fun a h => ?_
 refine sI h hS rfl (v_addw rfl rfl) fun z16 e16 hS a h => ?_
 refine cps 1 h rfl fun a h => ?_
 refine c_lnil ?_
 exact exL (ex3 ⟨lpN en2 hS, h.to, H, el0⟩)
 refine c_exit ?_
 cases hS
 exact hn _ _ (out0 h rfl ⟨rfl, _, H.hp.getRow 0 rfl, el0, H.outB⟩)
theorem slices_rotateCmpFunc_Term_ok {x0 : List (T)} {x1 : Int} {x2 : Int} {x3 : Int} {x4 : T → T → Option (Int)} {res : List (T)} {w0 : World} (hS : slices_rotateCmpFunc_Term x0 x1 x2 x3 x4 = some res) {Z : FZ} (hZ : Z.inn w0) {xv0 : Value} {cs0 : List (Cl 2)} (rp0 : w0.ownsRow 0 102 2 xv0 cs0.length (cs0.flatMap Subtype.val)) (el0 : EL termEnc Z cs0 x0) (off0 : ∀ b, xv0.ownBlock = some b → Z b = none) {fi4 : FuncId} {cp4 : Array Value} (hf4 : FnE Tryz.prog fi4 cp4 Z termEnc (fun r : Int => .int .i64 r) x4) {B0 : Bs} (eB : B0 = ⟨w0, xv0.ownBlock.toList⟩) {Zi : FZ} (eZ : Zi = Z) : Calls Tryz.prog 234 [xv0, .int .i64 x1, .int .i64 x2, .int .i64 x3, .func (.func fi4) #[] cp4].toArray w0 (Ret fun v w => v = .tuple #[] ∧ ∃ css : List (Cl 2), w.ownsRow 0 102 2 xv0 css.length (css.flatMap Subtype.val) ∧ EL termEnc Zi css res ∧ ExtB B0 w) := by
 have H : HZ B0 Zi Z [.row 102 2 xv0 cs0.length (cs0.flatMap Subtype.val)] w0 := by rw [eB, eZ]; exact HZ.startLR hZ rp0 off0
 refine enG func234 [0, 1, 2, 3, 4] [_, _, _, _, _] fun Q a h hr hn => ?_
 rw [← eZ] at hf4 el0
 clear eB eZ
 have H : HZ B0 _ _ [_] _ := H
 unfold slices_rotateCmpFunc_Term at hS
 refine rg fun K k => ?_
 refine cps 2 h rfl fun a h => ?_
 refine sI h hS rfl (v_subw rfl rfl) fun z1 e1 hS a h => ?_
 refine cps 1 h rfl fun a h => ?_
 refine cN k h [0, 2, 3, 4, 10] [_, _, _, _, _] fun h => ?_
 refine rg fun K k => ?_
 refine cps 2 h rfl fun a h => ?_
 refine sI h hS rfl (v_subw rfl rfl) fun z2 e2 hS a h => ?_
 refine cps 1 h rfl fun a h => ?_
 refine cN k h [0, 2, 4, 10, 11] [_, _, _, _, _] fun h => ?_
 obtain ⟨J4, eJ4, hS⟩ := bv hS
 refine sbJ (fun a w => ∃ (Z : FZ) (s4 : Int × (List (T))) (cs5 : List (Cl 2)), J4 s4 = some res ∧ Fr 58 [(0, xv0), (2, .int .i64 x2), (4, .func (.func fi4) #[] cp4), (10, .int .i64 s4.1)] a ∧ HZ B0 Zi Z [.row 102 2 xv0 cs5.length (cs5.flatMap Subtype.val)] w ∧ EL termEnc Zi cs5 s4.2) ?_ ?_
 rintro a w ⟨Z, s4, cs5, hS, h, H, el0⟩
 subst eJ4
 refine c_lregion ?_
 refine cps 3 h rfl fun a h => ?_
 refine sI h hS rfl (v_subw rfl rfl) fun z6 e6 hS a h => ?_
 refine cps 3 h rfl fun a h => ?_
 obtain ⟨y7, f7, hS⟩ := bo hS
 refine st2 h rfl rfl rfl (dC call250 (slices_swapRangeCmpFunc_Term_ok f7 H.zini (H.hp.getRow 0 rfl) el0 (H.offZi 0 rfl) hf4 rfl rfl)) ?_
 rintro v_ w ⟨rfl, cs_8, ho_8, el0, X⟩ a h
 obtain ⟨Z, hsub, _, H⟩ := H.lentR 0 rfl ho_8 X (hl' := [_]) rfl
 have H : HZ B0 _ _ [_] _ := H
 refine c_lnil ?_
 cases hS
 exact hn _ _ (out0 h rfl ⟨rfl, _, H.hp.getRow 0 rfl, el0, H.outB⟩)
 obtain ⟨B9, eB9, hS⟩ := bv hS
 refine lpJ (fun mu_ a w => ∃ (Z : FZ) (s9 : Int × Int × (List (T))) (cs11 : List (Cl 2)), loopF B9 mu_ s9 = some res ∧ Fr 58 [(0, xv0), (2, .int .i64 x2), (4, .func (.func fi4) #[] cp4), (10, .int .i64 s9.1), (11, .int .i64 s9.2.1)] a ∧ HZ B0 Zi Z [.row 102 2 xv0 cs11.length (cs11.flatMap Subtype.val)] w ∧ EL termEnc Zi cs11 s9.2.2) KK ⟨_, _, _, hS, h.to, H, el0⟩ ?_
 rintro mu_ a w ⟨Z, s9, cs11, hS, h, H, el0⟩
 obtain ⟨mu_, rfl, n9, en9, hS⟩ := lpX eB9 hS
 refine sq ?_
 refine rg fun K k => ?_
 refine cps 2 h rfl fun a h => ?_
 refine sB h hS rfl (v_ne rfl rfl) fun z13 e13 hS a h => ?_
 refine cz k ?_
 refine cI h hS rfl (fun ec14 hS => ?_) fun ec14 hS => ?_
 refine c_skip ?_
 refine lb ?_
 refine rg fun K k => ?_
 refine cps 2 h rfl fun a h => ?_
 refine sB h hS rfl (v_gt rfl rfl) fun z16 e16 hS a h => ?_
 refine cN k h [0, 2, 4, 10, 11, 23] [_, _, _, _, _, _] fun h => ?_
 refine cI h hS rfl (fun ec17 hS => ?_) fun ec17 hS => ?_
 refine rg fun K k => ?_
 refine cps 3 h rfl fun a h => ?_
 refine sI h hS rfl (v_subw rfl rfl) fun z18 e18 hS a h => ?_
 refine cps 3 h rfl fun a h => ?_
 obtain ⟨y19, f19, hS⟩ := bo hS
 refine st2 h rfl rfl rfl (dC call250 (slices_swapRangeCmpFunc_Term_ok f19 H.zini (H.hp.getRow 0 rfl) el0 (H.offZi 0 rfl) hf4 rfl rfl)) ?_
 rintro v_ w ⟨rfl, cs_20, ho_20, el0, X⟩ a h
 obtain ⟨Z, hsub, _, H⟩ := H.lentR 0 rfl ho_20 X (hl' := [_]) rfl
 have H : HZ B0 _ _ [_] _ := H
 refine cN k h [0, 2, 4, 10, 11] [_, _, _, _, _] fun h => ?_
 refine c_lregion ?_
 refine cps 2 h rfl fun a h => ?_
 refine sI h hS rfl (v_subw rfl rfl) fun z21 e21 hS a h => ?_
 refine cps 1 h rfl fun a h => ?_
 refine c_lnil ?_
 exact exL (ex3 ⟨lpN en9 hS, h.to, H, el0⟩)
 refine rg fun K k => ?_
 refine cps 3 h rfl fun a h => ?_
 refine sI h hS rfl (v_subw rfl rfl) fun z22 e22 hS a h => ?_
 refine cps 2 h rfl fun a h => ?_
 refine sI h hS rfl (v_addw rfl rfl) fun z23 e23 hS a h => ?_
 refine cps 1 h rfl fun a h => ?_
 refine sI h hS rfl (v_subw rfl rfl) fun z24 e24 hS a h => ?_
 refine cps 2 h rfl fun a h => ?_
 obtain ⟨y25, f25, hS⟩ := bo hS
 refine st2 h rfl rfl rfl (dC call250 (slices_swapRangeCmpFunc_Term_ok f25 H.zini (H.hp.getRow 0 rfl) el0 (H.offZi 0 rfl) hf4 rfl rfl)) ?_
 rintro v_ w ⟨rfl, cs_26, ho_26, el0, X⟩ a h
 obtain ⟨Z, hsub, _, H⟩ := H.lentR 0 rfl ho_26 X (hl' := [_]) rfl
 have H : HZ B0 _ _ [_] _ := H
 refine cN k h [0, 2, 4, 10, 11] [_, _, _, _, _] fun h => ?_
 refine c_lregion ?_
 refine cps 2 h rfl fun a h => ?_
 refine sI h hS rfl (v_subw rfl rfl) fun z27 e27 hS a h => ?_
 refine cps 1 h rfl fun a h => ?_
 refine c_lnil ?_
 exact exL (ex3 ⟨lpN en9 hS, h.to, H, el0⟩)
 exact c_exit (ex3 ⟨hS, h.to, H, el0⟩)
theorem slices_insertionSortCmpFunc_Term_ok {x0 : List (T)} {x1 : Int} {x2 : Int} {x3 : T → T → Option (Int)} {res : List (T)} {w0 : World} (hS : slices_insertionSortCmpFunc_Term x0 x1 x2 x3 = some res) {Z : FZ} (hZ : Z.inn w0) {xv0 : Value} {cs0 : List (Cl 2)} (rp0 : w0.ownsRow 0 102 2 xv0 cs0.length (cs0.flatMap Subtype.val)) (el0 : EL termEnc Z cs0 x0) (off0 : ∀ b, xv0.ownBlock = some b → Z b = none) {fi3 : FuncId} {cp3 : Array Value} (hf3 : FnE Tryz.prog fi3 cp3 Z termEnc (fun r : Int => .int .i64 r) x3) {B0 : Bs} (eB : B0 = ⟨w0, xv0.ownBlock.toList⟩) {Zi : FZ} (eZ : Zi = Z) : Calls Tryz.prog 188 [xv0, .int .i64 x1, .int .i64 x2, .func (.func fi3) #[] cp3].toArray w0 (Ret fun v w => v = .tuple #[] ∧ ∃ css : List (Cl 2), w.ownsRow 0 102 2 xv0 css.length (css.flatMap Subtype.val) ∧ EL termEnc Zi css res ∧ ExtB B0 w) := by
 have H : HZ B0 Zi Z [.row 102 2 xv0 cs0.length (cs0.flatMap Subtype.val)] w0 := by rw [eB, eZ]; exact HZ.startLR hZ rp0 off0
 refine enG func188 [0, 1, 2, 3] [_, _, _, _] fun Q a h hr hn => ?_
 rw [← eZ] at hf3 el0
 clear eB eZ
 have H : HZ B0 _ _ [_] _ := H
 unfold slices_insertionSortCmpFunc_Term at hS
 refine rg fun K k => ?_
 refine cps 1 h rfl fun a h => ?_
 refine sI h hS rfl (v_addw rfl rfl) fun z1 e1 hS a h => ?_
 refine cps 1 h rfl fun a h => ?_
 refine cz k ?_
 refine lb ?_
 obtain ⟨B3, eB3, hS⟩ := bv hS
 refine lpJ (fun mu_ a w => ∃ (Z : FZ) (s3 : Int × (List (T))) (cs5 : List (Cl 2)), loopF B3 mu_ s3 = some res ∧ Fr 53 [(0, xv0), (1, .int .i64 x1), (2, .int .i64 x2), (3, .func (.func fi3) #[] cp3), (8, .int .i64 s3.1)] a ∧ HZ B0 Zi Z [.row 102 2 xv0 cs5.length (cs5.flatMap Subtype.val)] w ∧ EL termEnc Zi cs5 s3.2) KK ⟨_, _, _, hS, h.to, H, el0⟩ ?_
 rintro mu_ a w ⟨Z, s3, cs5, hS, h, H, el0⟩
 obtain ⟨mu_, rfl, n3, en3, hS⟩ := lpX eB3 hS
 refine sq ?_
 refine rg fun K k => ?_
 refine cps 2 h rfl fun a h => ?_
 refine sB h hS rfl (v_lt rfl rfl) fun z7 e7 hS a h => ?_
 refine cz k ?_
 refine cI h hS rfl (fun ec8 hS => ?_) fun ec8 hS => ?_
 refine c_skip ?_
 obtain ⟨J10, eJ10, hS⟩ := bv hS
 refine sbJ (fun a w => ∃ (Z : FZ) (s10 : (List (T))) (cs11 : List (Cl 2)), J10 s10 = some res ∧ Fr 53 [(0, xv0), (1, .int .i64 x1), (2, .int .i64 x2), (3, .func (.func fi3) #[] cp3), (8, .int .i64 s3.1)] a ∧ HZ B0 Zi Z [.row 102 2 xv0 cs11.length (cs11.flatMap Subtype.val)] w ∧ EL termEnc Zi cs11 s10) ?_ ?_
 rintro a w ⟨Z, s10, cs11, hS, h, H, el0⟩
 subst eJ10
 refine c_lregion ?_
 refine cps 1 h rfl fun a h => ?_
 refine sI h hS rfl (v_addw rfl rfl) fun z12 e12 hS a h => ?_
 refine cps 1 h rfl fun a h => ?_
 refine c_lnil ?_
 exact exL (ex3 ⟨lpN en3 hS, h.to, H, el0⟩)
 refine rg fun K k => ?_
 refine cps 2 h rfl fun a h => ?_
 refine cN k h [0, 1, 2, 3, 8, 9] [_, _, _, _, _, _] fun h => ?_
 refine lb ?_
 obtain ⟨B14, eB14, hS⟩ := bv hS
 refine lpJ (fun mu_ a w => ∃ (Z : FZ) (s14 : Int × (List (T))) (cs16 : List (Cl 2)), loopF B14 mu_ s14 = some res ∧ Fr 53 [(0, xv0), (1, .int .i64 x1), (2, .int .i64 x2), (3, .func (.func fi3) #[] cp3), (8, .int .i64 s3.1), (9, .int .i64 s14.1)] a ∧ HZ B0 Zi Z [.row 102 2 xv0 cs16.length (cs16.flatMap Subtype.val)] w ∧ EL termEnc Zi cs16 s14.2) KK ⟨_, _, _, hS, h.to, H, el0⟩ ?_
 rintro mu_ a w ⟨Z, s14, cs16, hS, h, H, el0⟩
 obtain ⟨mu_, rfl, n14, en14, hS⟩ := lpX eB14 hS
 refine sq ?_
 refine fl h ?_
 refine fcps 2 rfl ?_
 refine fB hS rfl (fun w X => v_gt rfl rfl) fun z18 e18 hS => ?_
 refine fcps 1 rfl ?_
 refine f_g [3, 21] rfl rfl rfl (gT rfl) rfl rfl (fun e0 w X => v_move rfl) ?_
 refine f_g [0, 21] rfl rfl rfl (gT rfl) rfl rfl (fun e0 w X => v_move rfl) ?_
 refine f_g [9, 21] rfl rfl rfl (gT rfl) rfl rfl (fun e0 w X => v_move rfl) ?_
 obtain ⟨c19, hS⟩ := ck hS
 obtain ⟨z20, e20, hS⟩ := bv hS
 have q_21 := el0.gel ⟨_, termEnc_dflt⟩ s14.1
 rw [← e20] at q_21
 obtain ⟨cl_21, hc_21, v25_21_1, hcs_21, r25_21_1⟩ := q_21
 refine f_gR (R := (fun w' v' => At w' v' (fun _ : Unit => [.int .i64 z20.n, v25_21_1]) () 0)) (c := z18) [23, 24, 21] rfl rfl rfl rfl rfl at_stab (fun w X => ?_) ?_
 skip
 exact ⟨(gT rfl), fun e0 => have H := H.ext X; d_idxC underlying41 sizeOf102 (eg e0 rfl) (eg e0 rfl) (H.getRow (i := 0) rfl) (c19 e0).1 (hc_21 (c19 e0)) hcs_21⟩
 refine f_gE (V := .agg #[.int .i64 z20.n, v25_21_1]) (c := z18) [25, 21] rfl rfl rfl rfl rfl (fun w X => ?_) ?_
 intro v25 h25
 exact ⟨(gT rfl), fun e0 => (v_loadAtA [_, _] rfl (h25 e0) isAgg102 sizeOf102 rfl rfl).doesF⟩
 refine f_g [0, 21] rfl rfl rfl (gT rfl) rfl rfl (fun e0 w X => v_move rfl) ?_
 refine f_g [9, 21] rfl rfl rfl (gT rfl) rfl rfl (fun e0 w X => v_move rfl) ?_
 obtain ⟨z22, e22, hS⟩ := bv hS
 refine f_g [28, 21] rfl rfl rfl (gT rfl) rfl rfl (fun e0 w X => vI e22 (v_subw (eg e0 rfl) rfl)) ?_
 obtain ⟨c23, hS⟩ := ck hS
 obtain ⟨z24, e24, hS⟩ := bv hS
 have q_25 := el0.gel ⟨_, termEnc_dflt⟩ z22
 rw [← e24] at q_25
 obtain ⟨cl_25, hc_25, v30_25_1, hcs_25, r30_25_1⟩ := q_25
 refine f_gR (R := (fun w' v' => At w' v' (fun _ : Unit => [.int .i64 z24.n, v30_25_1]) () 0)) (c := z18) [27, 29, 21] rfl rfl rfl rfl rfl at_stab (fun w X => ?_) ?_
 skip
 exact ⟨(gT rfl), fun e0 => have H := H.ext X; d_idxC underlying41 sizeOf102 (eg e0 rfl) (eg e0 rfl) (H.getRow (i := 0) rfl) (c23 e0).1 (hc_25 (c23 e0)) hcs_25⟩
 refine f_gE (V := .agg #[.int .i64 z24.n, v30_25_1]) (c := z18) [30, 21] rfl rfl rfl rfl rfl (fun w X => ?_) ?_
 intro v30 h30
 exact ⟨(gT rfl), fun e0 => (v_loadAtA [_, _] rfl (h30 e0) isAgg102 sizeOf102 rfl rfl).doesF⟩
 obtain ⟨y26, f26, hS⟩ := bo hS
 refine f_gd (V := .int .i64 y26) [22, 26, 31, 21] rfl rfl rfl (gT rfl) rfl rfl (fun e0 w X => have H := H.ext X; d_fnE hf3 H.zini (eg e0 rfl) (ca := [.int .i64 z20.n, v25_21_1]) (cb := [.int .i64 z24.n, v30_25_1]) (evs_c (eg e0 rfl) (evs_c (eg e0 rfl) evs_n)) ⟨_, rfl, r25_21_1⟩ ⟨_, rfl, r30_25_1⟩ (ifT e0 f26)) ?_
 obtain ⟨z27, e27, hS⟩ := bv hS
 refine f_g [32, 21] rfl rfl rfl (gT rfl) rfl rfl (fun e0 w X => vB e27 (v_lt (eg e0 rfl) rfl)) ?_
 refine fB hS rfl (fun w X => v_and rfl rfl) fun z28 e28 hS => ?_
 refine fE [0, 1, 2, 3, 8, 9, 34] [_, _, _, _, _, _, _] H fun a w X H h => ?_
 refine cI h hS rfl (fun ec29 hS => ?_) fun ec29 hS => ?_
 refine c_skip ?_
 refine sb ?_
 obtain ⟨z31, e31, hS⟩ := bv hS
 obtain ⟨c33, hS⟩ := ck hS
 obtain ⟨c34, hS⟩ := ck hS
 obtain ⟨zrow_35, ezrow_35, hS⟩ := bv hS
 have ln_32 : cs16.length = s14.2.length := el0.len
 obtain ⟨gb_32, cap_32, hsv_32⟩ := H.rowPtr (i := 0) rfl (by omega)
 obtain ⟨cI_32, hcI_32, rI_32⟩ := el0.get (gel_some c34)
 obtain ⟨cJ_32, hcJ_32, rJ_32⟩ := el0.get (gel_some c33)
 obtain ⟨cs_32, hb_32, hcl_32, hct_32⟩ := H.openN (i := 0) rfl hsv_32 (by omega)
 have hpI_32 := open_at hct_32 hcI_32
 have hpJ_32 := open_at hct_32 hcJ_32
 have hlI_32 : Int.toNat s14.1 < cs16.length := by omega
 have hlJ_32 : Int.toNat z31 < cs16.length := by omega
 have p32 := put_take (c := cJ_32) hcl_32 hct_32 hlI_32
 refine c_lany (by kernel_rfl) ?_
 have H := H.ext (Ext.drew w)
 have hb_32 : (w.drew).heap[gb_32]? = some (.cells cs_32.toArray 102 (0, 0)) := hb_32
 have hX : ({ w with drawn := w.drawn + 1 } : World) = w.drew := rfl
 rw [hX]
 clear hX
 generalize w.drew = w at *
 refine a_hoist (i := 0) h rfl rfl rfl rfl (fun w => v_move rfl) (by kernel_rfl) rfl fun a h => ?_
 refine a_hoist (i := 1) h rfl rfl rfl rfl (fun w => v_move rfl) (by kernel_rfl) rfl fun a h => ?_
 refine a_hoist (i := 2) h rfl rfl rfl rfl (fun w => v_move rfl) (by kernel_rfl) rfl fun a h => ?_
 refine a_hoist (i := 3) h rfl rfl rfl rfl (fun w => v_move rfl) (by kernel_rfl) rfl fun a h => ?_
 refine a_hoist (i := 4) h rfl rfl rfl rfl (fun w => vI e31 (v_subw rfl rfl)) (by kernel_rfl) rfl fun a h => ?_
 refine a_hoist (i := 5) h rfl rfl rfl rfl (fun w => v_move rfl) (by kernel_rfl) rfl fun a h => ?_
 refine a_hoist (i := 6) h rfl rfl rfl rfl (fun w => v_move rfl) (by kernel_rfl) rfl fun a h => ?_
 refine a_hoist (i := 7) h rfl rfl rfl rfl (fun w => vI e31 (v_subw rfl rfl)) (by kernel_rfl) rfl fun a h => ?_
 refine a_hoist (i := 8) h rfl rfl rfl rfl (fun w => v_idxRow hsv_32 underlying41 sizeOf102 rfl rfl (by rw [ln_32]; exact c33)) (by kernel_rfl) rfl fun a h => ?_
 refine a_hoist (i := 10) h rfl rfl rfl rfl (fun w => v_move rfl) (by kernel_rfl) rfl fun a h => ?_
 refine a_hoist (i := 11) h rfl rfl rfl rfl (fun w => v_move rfl) (by kernel_rfl) rfl fun a h => ?_
 refine a_hoist (i := 12) h rfl rfl rfl rfl (fun w => v_idxRow hsv_32 underlying41 sizeOf102 rfl rfl (by rw [ln_32]; exact c34)) (by kernel_rfl) rfl fun a h => ?_
 refine a_two (i := 9) (j := 13) (by kernel_rfl) rfl rfl (R1.val h rfl (v_loadA cJ_32.1 rfl isAgg102 sizeOf102 hb_32 hpJ_32 cJ_32.2)) (R1.val h rfl (v_loadA cI_32.1 rfl isAgg102 sizeOf102 hb_32 hpI_32 cI_32.2)) ?_ ?_
 have h := h.put (d := 46) rfl (.agg cJ_32.1.toArray)
 refine a_one (i := 13) (by kernel_rfl) rfl (R1.val h rfl (v_loadA cI_32.1 rfl isAgg102 sizeOf102 hb_32 hpI_32 cI_32.2)) rfl ?_
 have h := h.put (d := 50) rfl (.agg cI_32.1.toArray)
 refine a_one (i := 14) (by kernel_rfl) rfl (R1.val h rfl (v_idxRow hsv_32 underlying41 sizeOf102 rfl rfl (by rw [ln_32]; exact c34))) rfl ?_
 have h := h.put (d := 51) rfl (.pointer (some ⟨gb_32, Int.toNat s14.1 * 2, none⟩))
 obtain ⟨w1, hR1, hb1, a1, a2, a3, a4, a5⟩ := r_storeK (ops := _) (P := Tryz.prog) (x := .tmp 51) (y := .tmp 46) (vs := cJ_32.1) h rfl rfl rfl cJ_32.2 ((termEnc).one rJ_32) sizeOf102 hb_32 (row_fit hlI_32 hcl_32)
 refine a_one (i := 15) (by kernel_rfl) rfl hR1 rfl ?_
 refine a_one (i := 16) (by kernel_rfl) rfl (R1.val h rfl (v_idxRow hsv_32 underlying41 sizeOf102 rfl rfl (by rw [ln_32]; exact c33))) rfl ?_
 have h := h.put (d := 52) rfl (.pointer (some ⟨gb_32, Int.toNat z31 * 2, none⟩))
 obtain ⟨w2, hR2, hb2, b1, b2, b3, b4, b5⟩ := r_storeK (ops := _) (P := Tryz.prog) (x := .tmp 52) (y := .tmp 50) (vs := cI_32.1) h rfl rfl rfl cI_32.2 ((termEnc).one rI_32) sizeOf102 hb1 (Nat.le_trans (row_fit hlJ_32 hcl_32) (Nat.le_of_eq p32.2.1.symm))
 refine a_one (i := 17) (by kernel_rfl) rfl hR2 rfl ?_
 refine a_end (by kernel_rfl) ?_
 have H := H.swapN (i := 0) (p := Int.toNat s14.1) (q := Int.toNat z31) rfl hsv_32 hlI_32 hlJ_32 hb_32 hcl_32 hct_32 hb2 (b1.trans a1) (b2.trans a2) (b3.trans a3) (b4.trans a4) (fun c hc => (b5 c hc).trans (a5 c hc)) (hl' := [_]) rfl
 have el0 := EL.set rI_32 (Int.toNat z31) (EL.set rJ_32 (Int.toNat s14.1) el0)
 rw [← ezrow_35] at el0
 have h := h.only [0, 1, 2, 3, 8, 9] (l' := [_, _, _, _, _, _]) rfl
 have H : HZ B0 _ _ [_] _ := H
 generalize w2 = w at h H
 refine c_lregion ?_
 refine cps 1 h rfl fun a h => ?_
 refine sI h hS rfl (v_subw rfl rfl) fun z36 e36 hS a h => ?_
 refine cps 1 h rfl fun a h => ?_
 refine c_lnil ?_
 exact exL (ex3 ⟨lpN en14 hS, h.to, H, el0⟩)
 have h := h.put (d := 50) rfl (.agg cI_32.1.toArray)
 refine a_one (i := 9) (by kernel_rfl) rfl (R1.val h rfl (v_loadA cJ_32.1 rfl isAgg102 sizeOf102 hb_32 hpJ_32 cJ_32.2)) rfl ?_
 have h := h.put (d := 46) rfl (.agg cJ_32.1.toArray)
 refine a_one (i := 14) (by kernel_rfl) rfl (R1.val h rfl (v_idxRow hsv_32 underlying41 sizeOf102 rfl rfl (by rw [ln_32]; exact c34))) rfl ?_
 have h := h.put (d := 51) rfl (.pointer (some ⟨gb_32, Int.toNat s14.1 * 2, none⟩))
 obtain ⟨w1, hR1, hb1, a1, a2, a3, a4, a5⟩ := r_storeK (ops := _) (P := Tryz.prog) (x := .tmp 51) (y := .tmp 46) (vs := cJ_32.1) h rfl rfl rfl cJ_32.2 ((termEnc).one rJ_32) sizeOf102 hb_32 (row_fit hlI_32 hcl_32)
 refine a_one (i := 15) (by kernel_rfl) rfl hR1 rfl ?_
 refine a_one (i := 16) (by kernel_rfl) rfl (R1.val h rfl (v_idxRow hsv_32 underlying41 sizeOf102 rfl rfl (by rw [ln_32]; exact c33))) rfl ?_
 have h := h.put (d := 52) rfl (.pointer (some ⟨gb_32, Int.toNat z31 * 2, none⟩))
 obtain ⟨w2, hR2, hb2, b1, b2, b3, b4, b5⟩ := r_storeK (ops := _) (P := Tryz.prog) (x := .tmp 52) (y := .tmp 50) (vs := cI_32.1) h rfl rfl rfl cI_32.2 ((termEnc).one rI_32) sizeOf102 hb1 (Nat.le_trans (row_fit hlJ_32 hcl_32) (Nat.le_of_eq p32.2.1.symm))
 refine a_one (i := 17) (by kernel_rfl) rfl hR2 rfl ?_
 refine a_end (by kernel_rfl) ?_
 have H := H.swapN (i := 0) (p := Int.toNat s14.1) (q := Int.toNat z31) rfl hsv_32 hlI_32 hlJ_32 hb_32 hcl_32 hct_32 hb2 (b1.trans a1) (b2.trans a2) (b3.trans a3) (b4.trans a4) (fun c hc => (b5 c hc).trans (a5 c hc)) (hl' := [_]) rfl
 have el0 := EL.set rI_32 (Int.toNat z31) (EL.set rJ_32 (Int.toNat s14.1) el0)
 rw [← ezrow_35] at el0
 have h := h.only [0, 1, 2, 3, 8, 9] (l' := [_, _, _, _, _, _]) rfl
 have H : HZ B0 _ _ [_] _ := H
 generalize w2 = w at h H
 refine c_lregion ?_
 refine cps 1 h rfl fun a h => ?_
 refine sI h hS rfl (v_subw rfl rfl) fun z37 e37 hS a h => ?_
 refine cps 1 h rfl fun a h => ?_
 refine c_lnil ?_
 exact exL (ex3 ⟨lpN en14 hS, h.to, H, el0⟩)
 exact c_exit (ex3 ⟨hS, h.to, H, el0⟩)
 refine c_exit ?_
 cases hS
 exact hn _ _ (out0 h rfl ⟨rfl, _, H.hp.getRow 0 rfl, el0, H.outB⟩)
theorem slices_symMergeCmpFunc_Term_B_ok {rec : List (T) → Int → Int → Int → (T → T → Option (Int)) → Option (List (T))} (hrec : ∀ {x0 : List (T)} {x1 : Int} {x2 : Int} {x3 : Int} {x4 : T → T → Option (Int)} {res : List (T)} {w0 : World} (hS : rec x0 x1 x2 x3 x4 = some res) {Z : FZ} (hZ : Z.inn w0) {xv0 : Value} {cs0 : List (Cl 2)} (rp0 : w0.ownsRow 0 102 2 xv0 cs0.length (cs0.flatMap Subtype.val)) (el0 : EL termEnc Z cs0 x0) (off0 : ∀ b, xv0.ownBlock = some b → Z b = none) {fi4 : FuncId} {cp4 : Array Value} (hf4 : FnE Tryz.prog fi4 cp4 Z termEnc (fun r : Int => .int .i64 r) x4) {B0 : Bs} (eB : B0 = ⟨w0, xv0.ownBlock.toList⟩) {Zi : FZ} (eZ : Zi = Z), Calls Tryz.prog 189 [xv0, .int .i64 x1, .int .i64 x2, .int .i64 x3, .func (.func fi4) #[] cp4].toArray w0 (Ret fun v w => v = .tuple #[] ∧ ∃ css : List (Cl 2), w.ownsRow 0 102 2 xv0 css.length (css.flatMap Subtype.val) ∧ EL termEnc Zi css res ∧ ExtB B0 w)) {x0 : List (T)} {x1 : Int} {x2 : Int} {x3 : Int} {x4 : T → T → Option (Int)} {res : List (T)} {w0 : World} (hS : slices_symMergeCmpFunc_Term_B rec x0 x1 x2 x3 x4 = some res) {Z : FZ} (hZ : Z.inn w0) {xv0 : Value} {cs0 : List (Cl 2)} (rp0 : w0.ownsRow 0 102 2 xv0 cs0.length (cs0.flatMap Subtype.val)) (el0 : EL termEnc Z cs0 x0) (off0 : ∀ b, xv0.ownBlock = some b → Z b = none) {fi4 : FuncId} {cp4 : Array Value} (hf4 : FnE Tryz.prog fi4 cp4 Z termEnc (fun r : Int => .int .i64 r) x4) {B0 : Bs} (eB : B0 = ⟨w0, xv0.ownBlock.toList⟩) {Zi : FZ} (eZ : Zi = Z) : Calls Tryz.prog 189 [xv0, .int .i64 x1, .int .i64 x2, .int .i64 x3, .func (.func fi4) #[] cp4].toArray w0 (Ret fun v w => v = .tuple #[] ∧ ∃ css : List (Cl 2), w.ownsRow 0 102 2 xv0 css.length (css.flatMap Subtype.val) ∧ EL termEnc Zi css res ∧ ExtB B0 w) := by
 have H : HZ B0 Zi Z [.row 102 2 xv0 cs0.length (cs0.flatMap Subtype.val)] w0 := by rw [eB, eZ]; exact HZ.startLR hZ rp0 off0
 refine enG func189 [0, 1, 2, 3, 4] [_, _, _, _, _] fun Q a h hr hn => ?_
 rw [← eZ] at hf4 el0
 clear eB eZ
 have H : HZ B0 _ _ [_] _ := H
 unfold slices_symMergeCmpFunc_Term_B at hS
 obtain ⟨J2, eJ2, hS⟩ := bv hS
 refine sqJ (fun a w => ∃ (Z : FZ) (s2 : (List (T))) (cs3 : List (Cl 2)), J2 s2 = some res ∧ Fr 220 [(0, xv0), (1, .int .i64 x1), (2, .int .i64 x2), (3, .int .i64 x3), (4, .func (.func fi4) #[] cp4)] a ∧ HZ B0 Zi Z [.row 102 2 xv0 cs3.length (cs3.flatMap Subtype.val)] w ∧ EL termEnc Zi cs3 s2) ?_ ?_
 rintro a w ⟨Z, s2, cs3, hS, h, H, el0⟩
 subst eJ2
 obtain ⟨J5, eJ5, hS⟩ := bv hS
 refine sqJ (fun a w => ∃ (Z : FZ) (s5 : (List (T))) (cs6 : List (Cl 2)), J5 s5 = some res ∧ Fr 220 [(0, xv0), (1, .int .i64 x1), (2, .int .i64 x2), (3, .int .i64 x3), (4, .func (.func fi4) #[] cp4)] a ∧ HZ B0 Zi Z [.row 102 2 xv0 cs6.length (cs6.flatMap Subtype.val)] w ∧ EL termEnc Zi cs6 s5) ?_ ?_
 rintro a w ⟨Z, s5, cs6, hS, h, H, el0⟩
 subst eJ5
 refine rg fun K k => ?_
 refine cps 2 h rfl fun a h => ?_
 refine sI h hS rfl (v_addw rfl rfl) fun z7 e7 hS a h => ?_
 refine sI h hS rfl (v_convInt (by rw [underlying3]; rfl) underlying68 rfl rfl) fun z8 e8 hS a h => ?_
 obtain ⟨c9, hS⟩ := ck hS
 refine sI h hS rfl (v_shr rfl rfl c9) fun z10 e10 hS a h => ?_
 refine sI h hS rfl (v_convInt (by rw [underlying68]; rfl) underlying3 rfl rfl) fun z11 e11 hS a h => ?_
 refine cps 1 h rfl fun a h => ?_
 refine cN k h [0, 1, 2, 3, 4, 18] [_, _, _, _, _, _] fun h => ?_
 refine rg fun K k => ?_
 refine cps 2 h rfl fun a h => ?_
 refine sI h hS rfl (v_addw rfl rfl) fun z12 e12 hS a h => ?_
 refine cps 1 h rfl fun a h => ?_
 refine cz k ?_
 refine rg fun K k => ?_
 refine cps 2 h rfl fun a h => ?_
 refine cN k h [0, 1, 2, 3, 4, 18, 19] [_, _, _, _, _, _, _] fun h => ?_
 obtain ⟨J14, eJ14, hS⟩ := bv hS
 refine sqJ (fun a w => ∃ (Z : FZ) (s14 : Int × Int), J14 s14 = some res ∧ Fr 220 [(0, xv0), (1, .int .i64 x1), (2, .int .i64 x2), (3, .int .i64 x3), (4, .func (.func fi4) #[] cp4), (18, .int .i64 z11), (19, .int .i64 z12), (20, .int .i64 s14.1), (21, .int .i64 s14.2)] a ∧ HZ B0 Zi Z [.row 102 2 xv0 cs6.length (cs6.flatMap Subtype.val)] w ∧ EL termEnc Zi cs6 s5) ?_ ?_
 rintro a w ⟨Z, s14, hS, h, H, el0⟩
 subst eJ14
 refine rg fun K k => ?_
 refine cps 1 h rfl fun a h => ?_
 refine sI h hS rfl (v_subw rfl rfl) fun z15 e15 hS a h => ?_
 refine cps 1 h rfl fun a h => ?_
 refine cz k ?_
 obtain ⟨J17, eJ17, hS⟩ := bv hS
 refine sbJ (fun a w => ∃ (Z : FZ) (s17 : Int), J17 s17 = some res ∧ Fr 220 [(0, xv0), (1, .int .i64 x1), (2, .int .i64 x2), (3, .int .i64 x3), (4, .func (.func fi4) #[] cp4), (18, .int .i64 z11), (19, .int .i64 z12), (20, .int .i64 s17)] a ∧ HZ B0 Zi Z [.row 102 2 xv0 cs6.length (cs6.flatMap Subtype.val)] w ∧ EL termEnc Zi cs6 s5) ?_ ?_
 rintro a w ⟨Z, s17, hS, h, H, el0⟩
 subst eJ17
 refine rg fun K k => ?_
 refine cps 2 h rfl fun a h => ?_
 refine sI h hS rfl (v_subw rfl rfl) fun z18 e18 hS a h => ?_
 refine cps 1 h rfl fun a h => ?_
 refine cN k h [0, 1, 2, 3, 4, 18, 20, 24] [_, _, _, _, _, _, _, _] fun h => ?_
 obtain ⟨J20, eJ20, hS⟩ := bv hS
 refine sqJ (fun a w => ∃ (Z : FZ) (s20 : (List (T))) (cs21 : List (Cl 2)), J20 s20 = some res ∧ Fr 220 [(0, xv0), (1, .int .i64 x1), (3, .int .i64 x3), (4, .func (.func fi4) #[] cp4), (18, .int .i64 z11), (20, .int .i64 s17), (24, .int .i64 z18)] a ∧ HZ B0 Zi Z [.row 102 2 xv0 cs21.length (cs21.flatMap Subtype.val)] w ∧ EL termEnc Zi cs21 s20) ?_ ?_
 rintro a w ⟨Z, s20, cs21, hS, h, H, el0⟩
 subst eJ20
 obtain ⟨J23, eJ23, hS⟩ := bv hS
 refine sqJ (fun a w => ∃ (Z : FZ) (s23 : (List (T))) (cs24 : List (Cl 2)), J23 s23 = some res ∧ Fr 220 [(0, xv0), (3, .int .i64 x3), (4, .func (.func fi4) #[] cp4), (18, .int .i64 z11), (24, .int .i64 z18)] a ∧ HZ B0 Zi Z [.row 102 2 xv0 cs24.length (cs24.flatMap Subtype.val)] w ∧ EL termEnc Zi cs24 s23) ?_ ?_
 rintro a w ⟨Z, s23, cs24, hS, h, H, el0⟩
 subst eJ23
 refine rg fun K k => ?_
 refine cps 2 h rfl fun a h => ?_
 refine sB h hS rfl (v_lt rfl rfl) fun z25 e25 hS a h => ?_
 refine cps 1 h rfl fun a h => ?_
 refine st_g h rfl rfl (gT rfl) rfl rfl (fun e0 => v_move rfl) fun a h => ?_
 refine st_g h rfl rfl (gT rfl) rfl rfl (fun e0 => v_move rfl) fun a h => ?_
 obtain ⟨z26, e26, hS⟩ := bv hS
 refine st_g h rfl rfl (gT rfl) rfl rfl (fun e0 => vB e26 (v_lt (eg e0 rfl) (eg e0 rfl))) fun a h => ?_
 refine sB h hS rfl (v_and rfl rfl) fun z27 e27 hS a h => ?_
 refine cN k h [0, 3, 4, 18, 24, 213] [_, _, _, _, _, _] fun h => ?_
 refine cI h hS rfl (fun ec28 hS => ?_) fun ec28 hS => ?_
 refine c_lregion ?_
 refine cps 5 h rfl fun a h => ?_
 obtain ⟨y29, f29, hS⟩ := bo hS
 refine st2 h rfl rfl rfl (dC call189 (hrec f29 H.zini (H.hp.getRow 0 rfl) el0 (H.offZi 0 rfl) hf4 rfl rfl)) ?_
 rintro v_ w ⟨rfl, cs_30, ho_30, el0, X⟩ a h
 obtain ⟨Z, hsub, _, H⟩ := H.lentR 0 rfl ho_30 X (hl' := [_]) rfl
 have H : HZ B0 _ _ [_] _ := H
 refine c_lnil ?_
 cases hS
 exact hn _ _ (out0 h rfl ⟨rfl, _, H.hp.getRow 0 rfl, el0, H.outB⟩)
 refine c_skip ?_
 cases hS
 exact hn _ _ (out0 h rfl ⟨rfl, _, H.hp.getRow 0 rfl, el0, H.outB⟩)
 refine rg fun K k => ?_
 refine cps 2 h rfl fun a h => ?_
 refine sB h hS rfl (v_lt rfl rfl) fun z31 e31 hS a h => ?_
 refine cps 1 h rfl fun a h => ?_
 refine st_g h rfl rfl (gT rfl) rfl rfl (fun e0 => v_move rfl) fun a h => ?_
 refine st_g h rfl rfl (gT rfl) rfl rfl (fun e0 => v_move rfl) fun a h => ?_
 obtain ⟨z32, e32, hS⟩ := bv hS
 refine st_g h rfl rfl (gT rfl) rfl rfl (fun e0 => vB e32 (v_lt (eg e0 rfl) (eg e0 rfl))) fun a h => ?_
 refine sB h hS rfl (v_and rfl rfl) fun z33 e33 hS a h => ?_
 refine cN k h [0, 1, 3, 4, 18, 20, 24, 199] [_, _, _, _, _, _, _, _] fun h => ?_
 refine cI h hS rfl (fun ec34 hS => ?_) fun ec34 hS => ?_
 refine c_lregion ?_
 refine cps 5 h rfl fun a h => ?_
 obtain ⟨y35, f35, hS⟩ := bo hS
 refine st2 h rfl rfl rfl (dC call189 (hrec f35 H.zini (H.hp.getRow 0 rfl) el0 (H.offZi 0 rfl) hf4 rfl rfl)) ?_
 rintro v_ w ⟨rfl, cs_36, ho_36, el0, X⟩ a h
 obtain ⟨Z, hsub, _, H⟩ := H.lentR 0 rfl ho_36 X (hl' := [_]) rfl
 have H : HZ B0 _ _ [_] _ := H
 refine c_lnil ?_
 exact ex3 ⟨hS, h.to, H, el0⟩
 exact c_skip (ex3 ⟨hS, h.to, H, el0⟩)
 refine rg fun K k => ?_
 refine cps 2 h rfl fun a h => ?_
 refine sB h hS rfl (v_lt rfl rfl) fun z37 e37 hS a h => ?_
 refine cps 1 h rfl fun a h => ?_
 refine st_g h rfl rfl (gT rfl) rfl rfl (fun e0 => v_move rfl) fun a h => ?_
 refine st_g h rfl rfl (gT rfl) rfl rfl (fun e0 => v_move rfl) fun a h => ?_
 obtain ⟨z38, e38, hS⟩ := bv hS
 refine st_g h rfl rfl (gT rfl) rfl rfl (fun e0 => vB e38 (v_lt (eg e0 rfl) (eg e0 rfl))) fun a h => ?_
 refine sB h hS rfl (v_and rfl rfl) fun z39 e39 hS a h => ?_
 refine cN k h [0, 1, 2, 3, 4, 18, 20, 24, 185] [_, _, _, _, _, _, _, _, _] fun h => ?_
 refine cI h hS rfl (fun ec40 hS => ?_) fun ec40 hS => ?_
 refine c_lregion ?_
 refine cps 5 h rfl fun a h => ?_
 obtain ⟨y41, f41, hS⟩ := bo hS
 refine st2 h rfl rfl rfl (dC call234 (slices_rotateCmpFunc_Term_ok f41 H.zini (H.hp.getRow 0 rfl) el0 (H.offZi 0 rfl) hf4 rfl rfl)) ?_
 rintro v_ w ⟨rfl, cs_42, ho_42, el0, X⟩ a h
 obtain ⟨Z, hsub, _, H⟩ := H.lentR 0 rfl ho_42 X (hl' := [_]) rfl
 have H : HZ B0 _ _ [_] _ := H
 refine c_lnil ?_
 exact ex3 ⟨hS, h.to, H, el0⟩
 exact c_skip (ex3 ⟨hS, h.to, H, el0⟩)
 obtain ⟨B43, eB43, hS⟩ := bv hS
 refine lpJ (fun mu_ a w => ∃ (Z : FZ) (s43 : Int × Int), loopF B43 mu_ s43 = some res ∧ Fr 220 [(0, xv0), (1, .int .i64 x1), (2, .int .i64 x2), (3, .int .i64 x3), (4, .func (.func fi4) #[] cp4), (18, .int .i64 z11), (19, .int .i64 z12), (20, .int .i64 s43.1), (21, .int .i64 s43.2), (22, .int .i64 z15)] a ∧ HZ B0 Zi Z [.row 102 2 xv0 cs6.length (cs6.flatMap Subtype.val)] w ∧ EL termEnc Zi cs6 s5) KK ⟨_, _, hS, h.to, H, el0⟩ ?_
 rintro mu_ a w ⟨Z, s43, hS, h, H, el0⟩
 obtain ⟨mu_, rfl, n43, en43, hS⟩ := lpX eB43 hS
 refine sq ?_
 refine rg fun K k => ?_
 refine cps 2 h rfl fun a h => ?_
 refine sB h hS rfl (v_lt rfl rfl) fun z46 e46 hS a h => ?_
 refine cz k ?_
 refine cI h hS rfl (fun ec47 hS => ?_) fun ec47 hS => ?_
 refine c_skip ?_
 refine lb ?_
 refine rg fun K k => ?_
 refine cps 2 h rfl fun a h => ?_
 refine sI h hS rfl (v_addw rfl rfl) fun z49 e49 hS a h => ?_
 refine sI h hS rfl (v_convInt (by rw [underlying3]; rfl) underlying68 rfl rfl) fun z50 e50 hS a h => ?_
 obtain ⟨c51, hS⟩ := ck hS
 refine sI h hS rfl (v_shr rfl rfl c51) fun z52 e52 hS a h => ?_
 refine sI h hS rfl (v_convInt (by rw [underlying68]; rfl) underlying3 rfl rfl) fun z53 e53 hS a h => ?_
 refine cps 1 h rfl fun a h => ?_
 refine cN k h [0, 1, 2, 3, 4, 18, 19, 20, 21, 22, 23] [_, _, _, _, _, _, _, _, _, _, _] fun h => ?_
 refine fl h ?_
 refine fcps 4 rfl ?_
 refine fI hS rfl (fun w X => v_subw rfl rfl) fun z54 e54 hS => ?_
 obtain ⟨c55, hS⟩ := ck hS
 obtain ⟨z56, e56, hS⟩ := bv hS
 have q_57 := el0.gel ⟨_, termEnc_dflt⟩ z54
 rw [← e56] at q_57
 obtain ⟨cl_57, hc_57, v163_57_1, hcs_57, r163_57_1⟩ := q_57
 refine f_op [159, 162] rfl rfl rfl rfl false (.rel (fun w' v' => At w' v' (fun _ : Unit => [.int .i64 z56.n, v163_57_1]) () 0)) at_stab (fun w X => ?_) ?_
 skip
 exact have H := H.ext X; d_idxC underlying41 sizeOf102 rfl rfl (H.getRow (i := 0) rfl) c55.1 (hc_57 c55) hcs_57
 refine f_op [163] rfl rfl rfl rfl false (.eq (.agg #[.int .i64 z56.n, v163_57_1])) trivial (fun w X => ?_) ?_
 intro v163 h163
 exact (v_loadAtA [_, _] rfl h163 isAgg102 sizeOf102 rfl rfl).doesF
 refine fcps 2 rfl ?_
 obtain ⟨c58, hS⟩ := ck hS
 obtain ⟨z59, e59, hS⟩ := bv hS
 have q_60 := el0.gel ⟨_, termEnc_dflt⟩ z53
 rw [← e59] at q_60
 obtain ⟨cl_60, hc_60, v167_60_1, hcs_60, r167_60_1⟩ := q_60
 refine f_op [165, 166] rfl rfl rfl rfl false (.rel (fun w' v' => At w' v' (fun _ : Unit => [.int .i64 z59.n, v167_60_1]) () 0)) at_stab (fun w X => ?_) ?_
 skip
 exact have H := H.ext X; d_idxC underlying41 sizeOf102 rfl rfl (H.getRow (i := 0) rfl) c58.1 (hc_60 c58) hcs_60
 refine f_op [167] rfl rfl rfl rfl false (.eq (.agg #[.int .i64 z59.n, v167_60_1])) trivial (fun w X => ?_) ?_
 intro v167 h167
 exact (v_loadAtA [_, _] rfl h167 isAgg102 sizeOf102 rfl rfl).doesF
 refine fC hS rfl (fun y61 f61 w X => have H := H.ext X; d_fnE hf4 H.zini rfl (ca := [.int .i64 z56.n, v163_57_1]) (cb := [.int .i64 z59.n, v167_60_1]) rfl ⟨_, rfl, r163_57_1⟩ ⟨_, rfl, r167_60_1⟩ f61) fun y61 hS => ?_
 refine fB hS rfl (fun w X => v_lt rfl rfl) fun z62 e62 hS => ?_
 refine fB hS rfl (fun w X => v_not rfl) fun z63 e63 hS => ?_
 refine fE [0, 1, 2, 3, 4, 18, 19, 20, 21, 22, 23, 171] [_, _, _, _, _, _, _, _, _, _, _, _] H fun a w X H h => ?_
 refine cI h hS rfl (fun ec64 hS => ?_) fun ec64 hS => ?_
 refine c_lregion ?_
 refine cps 1 h rfl fun a h => ?_
 refine sI h hS rfl (v_addw rfl rfl) fun z65 e65 hS a h => ?_
 refine cps 1 h rfl fun a h => ?_
 refine c_lnil ?_
 exact exL (ex2 ⟨lpN en43 hS, h.to, H, el0⟩)
 refine c_lregion ?_
 refine cps 2 h rfl fun a h => ?_
 refine c_lnil ?_
 exact exL (ex2 ⟨lpN en43 hS, h.to, H, el0⟩)
 exact c_exit (ex2 ⟨hS, h.to, H, el0⟩)
 refine rg fun K k => ?_
 refine cps 2 h rfl fun a h => ?_
 refine sB h hS rfl (v_gt rfl rfl) fun z66 e66 hS a h => ?_
 refine cz k ?_
 refine cI h hS rfl (fun ec67 hS => ?_) fun ec67 hS => ?_
 refine rg fun K k => ?_
 refine cps 2 h rfl fun a h => ?_
 refine sI h hS rfl (v_subw rfl rfl) fun z68 e68 hS a h => ?_
 refine cps 1 h rfl fun a h => ?_
 refine cN k h [0, 1, 2, 3, 4, 18, 19, 20] [_, _, _, _, _, _, _, _] fun h => ?_
 refine c_lregion ?_
 refine cps 2 h rfl fun a h => ?_
 refine c_lnil ?_
 exact ex2 ⟨hS, h.to, H, el0⟩
 refine rg fun K k => ?_
 refine cps 2 h rfl fun a h => ?_
 refine cN k h [0, 1, 2, 3, 4, 18, 19, 20] [_, _, _, _, _, _, _, _] fun h => ?_
 refine c_lregion ?_
 refine cps 2 h rfl fun a h => ?_
 refine c_lnil ?_
 exact ex2 ⟨hS, h.to, H, el0⟩
 refine rg fun K k => ?_
 refine cps 2 h rfl fun a h => ?_
 refine sI h hS rfl (v_subw rfl rfl) fun z69 e69 hS a h => ?_
 refine sB h hS rfl (v_eq rfl rfl) fun z70 e70 hS a h => ?_
 refine cz k ?_
 refine cI h hS rfl (fun ec71 hS => ?_) fun ec71 hS => ?_
 refine rg fun K k => ?_
 refine cps 2 h rfl fun a h => ?_
 refine cN k h [0, 2, 4, 14] [_, _, _, _] fun h => ?_
 refine rg fun K k => ?_
 refine cps 2 h rfl fun a h => ?_
 refine cz k ?_
 obtain ⟨J73, eJ73, hS⟩ := bv hS
 refine sbJ (fun a w => ∃ (Z : FZ) (s73 : Int), J73 s73 = some res ∧ Fr 220 [(0, xv0), (2, .int .i64 x2), (14, .int .i64 s73)] a ∧ HZ B0 Zi Z [.row 102 2 xv0 cs3.length (cs3.flatMap Subtype.val)] w ∧ EL termEnc Zi cs3 s2) ?_ ?_
 rintro a w ⟨Z, s73, hS, h, H, el0⟩
 subst eJ73
 refine sq ?_
 refine rg fun K k => ?_
 refine cps 2 h rfl fun a h => ?_
 refine cz k ?_
 refine lb ?_
 obtain ⟨B76, eB76, hS⟩ := bv hS
 refine lpJ (fun mu_ a w => ∃ (Z : FZ) (s76 : Int × (List (T))) (cs78 : List (Cl 2)), loopF B76 mu_ s76 = some res ∧ Fr 220 [(0, xv0), (14, .int .i64 s73), (17, .int .i64 s76.1)] a ∧ HZ B0 Zi Z [.row 102 2 xv0 cs78.length (cs78.flatMap Subtype.val)] w ∧ EL termEnc Zi cs78 s76.2) KK ⟨_, _, _, hS, h.to, H, el0⟩ ?_
 rintro mu_ a w ⟨Z, s76, cs78, hS, h, H, el0⟩
 obtain ⟨mu_, rfl, n76, en76, hS⟩ := lpX eB76 hS
 refine sq ?_
 refine rg fun K k => ?_
 refine cps 2 h rfl fun a h => ?_
 refine sB h hS rfl (v_gt rfl rfl) fun z80 e80 hS a h => ?_
 refine cz k ?_
 refine cI h hS rfl (fun ec81 hS => ?_) fun ec81 hS => ?_
 refine c_skip ?_
 refine sb ?_
 obtain ⟨z83, e83, hS⟩ := bv hS
 obtain ⟨c85, hS⟩ := ck hS
 obtain ⟨c86, hS⟩ := ck hS
 obtain ⟨zrow_87, ezrow_87, hS⟩ := bv hS
 have ln_84 : cs78.length = s76.2.length := el0.len
 obtain ⟨gb_84, cap_84, hsv_84⟩ := H.rowPtr (i := 0) rfl (by omega)
 obtain ⟨cI_84, hcI_84, rI_84⟩ := el0.get (gel_some c86)
 obtain ⟨cJ_84, hcJ_84, rJ_84⟩ := el0.get (gel_some c85)
 obtain ⟨cs_84, hb_84, hcl_84, hct_84⟩ := H.openN (i := 0) rfl hsv_84 (by omega)
 have hpI_84 := open_at hct_84 hcI_84
 have hpJ_84 := open_at hct_84 hcJ_84
 have hlI_84 : Int.toNat s76.1 < cs78.length := by omega
 have hlJ_84 : Int.toNat z83 < cs78.length := by omega
 have p84 := put_take (c := cJ_84) hcl_84 hct_84 hlI_84
 refine c_lany (by kernel_rfl) ?_
 have H := H.ext (Ext.drew w)
 have hb_84 : (w.drew).heap[gb_84]? = some (.cells cs_84.toArray 102 (0, 0)) := hb_84
 have hX : ({ w with drawn := w.drawn + 1 } : World) = w.drew := rfl
 rw [hX]
 clear hX
 generalize w.drew = w at *
 refine a_hoist (i := 0) h rfl rfl rfl rfl (fun w => v_move rfl) (by kernel_rfl) rfl fun a h => ?_
 refine a_hoist (i := 1) h rfl rfl rfl rfl (fun w => v_move rfl) (by kernel_rfl) rfl fun a h => ?_
 refine a_hoist (i := 2) h rfl rfl rfl rfl (fun w => v_move rfl) (by kernel_rfl) rfl fun a h => ?_
 refine a_hoist (i := 3) h rfl rfl rfl rfl (fun w => v_move rfl) (by kernel_rfl) rfl fun a h => ?_
 refine a_hoist (i := 4) h rfl rfl rfl rfl (fun w => vI e83 (v_subw rfl rfl)) (by kernel_rfl) rfl fun a h => ?_
 refine a_hoist (i := 5) h rfl rfl rfl rfl (fun w => v_move rfl) (by kernel_rfl) rfl fun a h => ?_
 refine a_hoist (i := 6) h rfl rfl rfl rfl (fun w => v_move rfl) (by kernel_rfl) rfl fun a h => ?_
 refine a_hoist (i := 7) h rfl rfl rfl rfl (fun w => vI e83 (v_subw rfl rfl)) (by kernel_rfl) rfl fun a h => ?_
 refine a_hoist (i := 8) h rfl rfl rfl rfl (fun w => v_idxRow hsv_84 underlying41 sizeOf102 rfl rfl (by rw [ln_84]; exact c85)) (by kernel_rfl) rfl fun a h => ?_
 refine a_hoist (i := 10) h rfl rfl rfl rfl (fun w => v_move rfl) (by kernel_rfl) rfl fun a h => ?_
 refine a_hoist (i := 11) h rfl rfl rfl rfl (fun w => v_move rfl) (by kernel_rfl) rfl fun a h => ?_
 refine a_hoist (i := 12) h rfl rfl rfl rfl (fun w => v_idxRow hsv_84 underlying41 sizeOf102 rfl rfl (by rw [ln_84]; exact c86)) (by kernel_rfl) rfl fun a h => ?_
 refine a_two (i := 9) (j := 13) (by kernel_rfl) rfl rfl (R1.val h rfl (v_loadA cJ_84.1 rfl isAgg102 sizeOf102 hb_84 hpJ_84 cJ_84.2)) (R1.val h rfl (v_loadA cI_84.1 rfl isAgg102 sizeOf102 hb_84 hpI_84 cI_84.2)) ?_ ?_
 have h := h.put (d := 122) rfl (.agg cJ_84.1.toArray)
 refine a_one (i := 13) (by kernel_rfl) rfl (R1.val h rfl (v_loadA cI_84.1 rfl isAgg102 sizeOf102 hb_84 hpI_84 cI_84.2)) rfl ?_
 have h := h.put (d := 126) rfl (.agg cI_84.1.toArray)
 refine a_one (i := 14) (by kernel_rfl) rfl (R1.val h rfl (v_idxRow hsv_84 underlying41 sizeOf102 rfl rfl (by rw [ln_84]; exact c86))) rfl ?_
 have h := h.put (d := 127) rfl (.pointer (some ⟨gb_84, Int.toNat s76.1 * 2, none⟩))
 obtain ⟨w1, hR1, hb1, a1, a2, a3, a4, a5⟩ := r_storeK (ops := _) (P := Tryz.prog) (x := .tmp 127) (y := .tmp 122) (vs := cJ_84.1) h rfl rfl rfl cJ_84.2 ((termEnc).one rJ_84) sizeOf102 hb_84 (row_fit hlI_84 hcl_84)
 refine a_one (i := 15) (by kernel_rfl) rfl hR1 rfl ?_
 refine a_one (i := 16) (by kernel_rfl) rfl (R1.val h rfl (v_idxRow hsv_84 underlying41 sizeOf102 rfl rfl (by rw [ln_84]; exact c85))) rfl ?_
 have h := h.put (d := 128) rfl (.pointer (some ⟨gb_84, Int.toNat z83 * 2, none⟩))
 obtain ⟨w2, hR2, hb2, b1, b2, b3, b4, b5⟩ := r_storeK (ops := _) (P := Tryz.prog) (x := .tmp 128) (y := .tmp 126) (vs := cI_84.1) h rfl rfl rfl cI_84.2 ((termEnc).one rI_84) sizeOf102 hb1 (Nat.le_trans (row_fit hlJ_84 hcl_84) (Nat.le_of_eq p84.2.1.symm))
 refine a_one (i := 17) (by kernel_rfl) rfl hR2 rfl ?_
 refine a_end (by kernel_rfl) ?_
 have H := H.swapN (i := 0) (p := Int.toNat s76.1) (q := Int.toNat z83) rfl hsv_84 hlI_84 hlJ_84 hb_84 hcl_84 hct_84 hb2 (b1.trans a1) (b2.trans a2) (b3.trans a3) (b4.trans a4) (fun c hc => (b5 c hc).trans (a5 c hc)) (hl' := [_]) rfl
 have el0 := EL.set rI_84 (Int.toNat z83) (EL.set rJ_84 (Int.toNat s76.1) el0)
 rw [← ezrow_87] at el0
 have h := h.only [0, 14, 17] (l' := [_, _, _]) rfl
 have H : HZ B0 _ _ [_] _ := H
 generalize w2 = w at h H
 refine c_lregion ?_
 refine cps 1 h rfl fun a h => ?_
 refine sI h hS rfl (v_subw rfl rfl) fun z88 e88 hS a h => ?_
 refine cps 1 h rfl fun a h => ?_
 refine c_lnil ?_
 exact exL (ex3 ⟨lpN en76 hS, h.to, H, el0⟩)
 have h := h.put (d := 126) rfl (.agg cI_84.1.toArray)
 refine a_one (i := 9) (by kernel_rfl) rfl (R1.val h rfl (v_loadA cJ_84.1 rfl isAgg102 sizeOf102 hb_84 hpJ_84 cJ_84.2)) rfl ?_
 have h := h.put (d := 122) rfl (.agg cJ_84.1.toArray)
 refine a_one (i := 14) (by kernel_rfl) rfl (R1.val h rfl (v_idxRow hsv_84 underlying41 sizeOf102 rfl rfl (by rw [ln_84]; exact c86))) rfl ?_
 have h := h.put (d := 127) rfl (.pointer (some ⟨gb_84, Int.toNat s76.1 * 2, none⟩))
 obtain ⟨w1, hR1, hb1, a1, a2, a3, a4, a5⟩ := r_storeK (ops := _) (P := Tryz.prog) (x := .tmp 127) (y := .tmp 122) (vs := cJ_84.1) h rfl rfl rfl cJ_84.2 ((termEnc).one rJ_84) sizeOf102 hb_84 (row_fit hlI_84 hcl_84)
 refine a_one (i := 15) (by kernel_rfl) rfl hR1 rfl ?_
 refine a_one (i := 16) (by kernel_rfl) rfl (R1.val h rfl (v_idxRow hsv_84 underlying41 sizeOf102 rfl rfl (by rw [ln_84]; exact c85))) rfl ?_
 have h := h.put (d := 128) rfl (.pointer (some ⟨gb_84, Int.toNat z83 * 2, none⟩))
 obtain ⟨w2, hR2, hb2, b1, b2, b3, b4, b5⟩ := r_storeK (ops := _) (P := Tryz.prog) (x := .tmp 128) (y := .tmp 126) (vs := cI_84.1) h rfl rfl rfl cI_84.2 ((termEnc).one rI_84) sizeOf102 hb1 (Nat.le_trans (row_fit hlJ_84 hcl_84) (Nat.le_of_eq p84.2.1.symm))
 refine a_one (i := 17) (by kernel_rfl) rfl hR2 rfl ?_
 refine a_end (by kernel_rfl) ?_
 have H := H.swapN (i := 0) (p := Int.toNat s76.1) (q := Int.toNat z83) rfl hsv_84 hlI_84 hlJ_84 hb_84 hcl_84 hct_84 hb2 (b1.trans a1) (b2.trans a2) (b3.trans a3) (b4.trans a4) (fun c hc => (b5 c hc).trans (a5 c hc)) (hl' := [_]) rfl
 have el0 := EL.set rI_84 (Int.toNat z83) (EL.set rJ_84 (Int.toNat s76.1) el0)
 rw [← ezrow_87] at el0
 have h := h.only [0, 14, 17] (l' := [_, _, _]) rfl
 have H : HZ B0 _ _ [_] _ := H
 generalize w2 = w at h H
 refine c_lregion ?_
 refine cps 1 h rfl fun a h => ?_
 refine sI h hS rfl (v_subw rfl rfl) fun z89 e89 hS a h => ?_
 refine cps 1 h rfl fun a h => ?_
 refine c_lnil ?_
 exact exL (ex3 ⟨lpN en76 hS, h.to, H, el0⟩)
 refine c_exit ?_
 refine cO h [] [] fun h => ?_
 cases hS
 refine r0 hr h rfl ⟨rfl, _, H.hp.getRow 0 rfl, el0, H.outB⟩
 obtain ⟨B90, eB90, hS⟩ := bv hS
 refine lpJ (fun mu_ a w => ∃ (Z : FZ) (s90 : Int × Int), loopF B90 mu_ s90 = some res ∧ Fr 220 [(0, xv0), (2, .int .i64 x2), (4, .func (.func fi4) #[] cp4), (14, .int .i64 s90.1), (15, .int .i64 s90.2)] a ∧ HZ B0 Zi Z [.row 102 2 xv0 cs3.length (cs3.flatMap Subtype.val)] w ∧ EL termEnc Zi cs3 s2) KK ⟨_, _, hS, h.to, H, el0⟩ ?_
 rintro mu_ a w ⟨Z, s90, hS, h, H, el0⟩
 obtain ⟨mu_, rfl, n90, en90, hS⟩ := lpX eB90 hS
 refine sq ?_
 refine rg fun K k => ?_
 refine cps 2 h rfl fun a h => ?_
 refine sB h hS rfl (v_lt rfl rfl) fun z93 e93 hS a h => ?_
 refine cz k ?_
 refine cI h hS rfl (fun ec94 hS => ?_) fun ec94 hS => ?_
 refine c_skip ?_
 refine lb ?_
 refine rg fun K k => ?_
 refine cps 2 h rfl fun a h => ?_
 refine sI h hS rfl (v_addw rfl rfl) fun z96 e96 hS a h => ?_
 refine sI h hS rfl (v_convInt (by rw [underlying3]; rfl) underlying68 rfl rfl) fun z97 e97 hS a h => ?_
 obtain ⟨c98, hS⟩ := ck hS
 refine sI h hS rfl (v_shr rfl rfl c98) fun z99 e99 hS a h => ?_
 refine sI h hS rfl (v_convInt (by rw [underlying68]; rfl) underlying3 rfl rfl) fun z100 e100 hS a h => ?_
 refine cps 1 h rfl fun a h => ?_
 refine cN k h [0, 2, 4, 14, 15, 16] [_, _, _, _, _, _] fun h => ?_
 refine fl h ?_
 refine fcps 3 rfl ?_
 obtain ⟨c101, hS⟩ := ck hS
 obtain ⟨z102, e102, hS⟩ := bv hS
 have q_103 := el0.gel ⟨_, termEnc_dflt⟩ x2
 rw [← e102] at q_103
 obtain ⟨cl_103, hc_103, v95_103_1, hcs_103, r95_103_1⟩ := q_103
 refine f_op [93, 94] rfl rfl rfl rfl false (.rel (fun w' v' => At w' v' (fun _ : Unit => [.int .i64 z102.n, v95_103_1]) () 0)) at_stab (fun w X => ?_) ?_
 skip
 exact have H := H.ext X; d_idxC underlying41 sizeOf102 rfl rfl (H.getRow (i := 0) rfl) c101.1 (hc_103 c101) hcs_103
 refine f_op [95] rfl rfl rfl rfl false (.eq (.agg #[.int .i64 z102.n, v95_103_1])) trivial (fun w X => ?_) ?_
 intro v95 h95
 exact (v_loadAtA [_, _] rfl h95 isAgg102 sizeOf102 rfl rfl).doesF
 refine fcps 2 rfl ?_
 obtain ⟨c104, hS⟩ := ck hS
 obtain ⟨z105, e105, hS⟩ := bv hS
 have q_106 := el0.gel ⟨_, termEnc_dflt⟩ z100
 rw [← e105] at q_106
 obtain ⟨cl_106, hc_106, v99_106_1, hcs_106, r99_106_1⟩ := q_106
 refine f_op [97, 98] rfl rfl rfl rfl false (.rel (fun w' v' => At w' v' (fun _ : Unit => [.int .i64 z105.n, v99_106_1]) () 0)) at_stab (fun w X => ?_) ?_
 skip
 exact have H := H.ext X; d_idxC underlying41 sizeOf102 rfl rfl (H.getRow (i := 0) rfl) c104.1 (hc_106 c104) hcs_106
 refine f_op [99] rfl rfl rfl rfl false (.eq (.agg #[.int .i64 z105.n, v99_106_1])) trivial (fun w X => ?_) ?_
 intro v99 h99
 exact (v_loadAtA [_, _] rfl h99 isAgg102 sizeOf102 rfl rfl).doesF
 refine fC hS rfl (fun y107 f107 w X => have H := H.ext X; d_fnE hf4 H.zini rfl (ca := [.int .i64 z102.n, v95_103_1]) (cb := [.int .i64 z105.n, v99_106_1]) rfl ⟨_, rfl, r95_103_1⟩ ⟨_, rfl, r99_106_1⟩ f107) fun y107 hS => ?_
 refine fB hS rfl (fun w X => v_lt rfl rfl) fun z108 e108 hS => ?_
 refine fB hS rfl (fun w X => v_not rfl) fun z109 e109 hS => ?_
 refine fE [0, 2, 4, 14, 15, 16, 103] [_, _, _, _, _, _, _] H fun a w X H h => ?_
 refine cI h hS rfl (fun ec110 hS => ?_) fun ec110 hS => ?_
 refine c_lregion ?_
 refine cps 1 h rfl fun a h => ?_
 refine sI h hS rfl (v_addw rfl rfl) fun z111 e111 hS a h => ?_
 refine cps 1 h rfl fun a h => ?_
 refine c_lnil ?_
 exact exL (ex2 ⟨lpN en90 hS, h.to, H, el0⟩)
 refine c_lregion ?_
 refine cps 2 h rfl fun a h => ?_
 refine c_lnil ?_
 exact exL (ex2 ⟨lpN en90 hS, h.to, H, el0⟩)
 exact c_exit (ex2 ⟨hS, h.to, H, el0⟩)
 exact c_skip (ex3 ⟨hS, h.to, H, el0⟩)
 refine rg fun K k => ?_
 refine cps 2 h rfl fun a h => ?_
 refine sI h hS rfl (v_subw rfl rfl) fun z112 e112 hS a h => ?_
 refine sB h hS rfl (v_eq rfl rfl) fun z113 e113 hS a h => ?_
 refine cz k ?_
 refine cI h hS rfl (fun ec114 hS => ?_) fun ec114 hS => ?_
 refine rg fun K k => ?_
 refine cps 2 h rfl fun a h => ?_
 refine cN k h [0, 1, 3, 4, 10] [_, _, _, _, _] fun h => ?_
 refine rg fun K k => ?_
 refine cps 2 h rfl fun a h => ?_
 refine cz k ?_
 obtain ⟨J116, eJ116, hS⟩ := bv hS
 refine sbJ (fun a w => ∃ (Z : FZ) (s116 : Int), J116 s116 = some res ∧ Fr 220 [(0, xv0), (1, .int .i64 x1), (10, .int .i64 s116)] a ∧ HZ B0 Zi Z [.row 102 2 xv0 cs0.length (cs0.flatMap Subtype.val)] w ∧ EL termEnc Zi cs0 x0) ?_ ?_
 rintro a w ⟨Z, s116, hS, h, H, el0⟩
 subst eJ116
 refine sq ?_
 refine rg fun K k => ?_
 refine cps 2 h rfl fun a h => ?_
 refine cz k ?_
 refine lb ?_
 obtain ⟨B119, eB119, hS⟩ := bv hS
 refine lpJ (fun mu_ a w => ∃ (Z : FZ) (s119 : Int × (List (T))) (cs121 : List (Cl 2)), loopF B119 mu_ s119 = some res ∧ Fr 220 [(0, xv0), (10, .int .i64 s116), (13, .int .i64 s119.1)] a ∧ HZ B0 Zi Z [.row 102 2 xv0 cs121.length (cs121.flatMap Subtype.val)] w ∧ EL termEnc Zi cs121 s119.2) KK ⟨_, _, _, hS, h.to, H, el0⟩ ?_
 rintro mu_ a w ⟨Z, s119, cs121, hS, h, H, el0⟩
 obtain ⟨mu_, rfl, n119, en119, hS⟩ := lpX eB119 hS
 refine sq ?_
 refine rg fun K k => ?_
 refine cps 2 h rfl fun a h => ?_
 refine sI h hS rfl (v_subw rfl rfl) fun z123 e123 hS a h => ?_
 refine sB h hS rfl (v_lt rfl rfl) fun z124 e124 hS a h => ?_
 refine cz k ?_
 refine cI h hS rfl (fun ec125 hS => ?_) fun ec125 hS => ?_
 refine c_skip ?_
 refine cO h [0, 10, 13] [_, _, _] fun h => ?_
 refine sb ?_
 obtain ⟨z127, e127, hS⟩ := bv hS
 obtain ⟨c129, hS⟩ := ck hS
 obtain ⟨c130, hS⟩ := ck hS
 obtain ⟨zrow_131, ezrow_131, hS⟩ := bv hS
 have ln_128 : cs121.length = s119.2.length := el0.len
 obtain ⟨gb_128, cap_128, hsv_128⟩ := H.rowPtr (i := 0) rfl (by omega)
 obtain ⟨cI_128, hcI_128, rI_128⟩ := el0.get (gel_some c130)
 obtain ⟨cJ_128, hcJ_128, rJ_128⟩ := el0.get (gel_some c129)
 obtain ⟨cs_128, hb_128, hcl_128, hct_128⟩ := H.openN (i := 0) rfl hsv_128 (by omega)
 have hpI_128 := open_at hct_128 hcI_128
 have hpJ_128 := open_at hct_128 hcJ_128
 have hlI_128 : Int.toNat s119.1 < cs121.length := by omega
 have hlJ_128 : Int.toNat z127 < cs121.length := by omega
 have p128 := put_take (c := cJ_128) hcl_128 hct_128 hlI_128
 refine c_lany (by kernel_rfl) ?_
 have H := H.ext (Ext.drew w)
 have hb_128 : (w.drew).heap[gb_128]? = some (.cells cs_128.toArray 102 (0, 0)) := hb_128
 have hX : ({ w with drawn := w.drawn + 1 } : World) = w.drew := rfl
 rw [hX]
 clear hX
 generalize w.drew = w at *
 refine a_hoist (i := 0) h rfl rfl rfl rfl (fun w => v_move rfl) (by kernel_rfl) rfl fun a h => ?_
 refine a_hoist (i := 1) h rfl rfl rfl rfl (fun w => v_move rfl) (by kernel_rfl) rfl fun a h => ?_
 refine a_hoist (i := 2) h rfl rfl rfl rfl (fun w => v_move rfl) (by kernel_rfl) rfl fun a h => ?_
 refine a_hoist (i := 3) h rfl rfl rfl rfl (fun w => v_move rfl) (by kernel_rfl) rfl fun a h => ?_
 refine a_hoist (i := 4) h rfl rfl rfl rfl (fun w => vI e127 (v_addw rfl rfl)) (by kernel_rfl) rfl fun a h => ?_
 refine a_hoist (i := 5) h rfl rfl rfl rfl (fun w => v_move rfl) (by kernel_rfl) rfl fun a h => ?_
 refine a_hoist (i := 6) h rfl rfl rfl rfl (fun w => v_move rfl) (by kernel_rfl) rfl fun a h => ?_
 refine a_hoist (i := 7) h rfl rfl rfl rfl (fun w => vI e127 (v_addw rfl rfl)) (by kernel_rfl) rfl fun a h => ?_
 refine a_hoist (i := 8) h rfl rfl rfl rfl (fun w => v_idxRow hsv_128 underlying41 sizeOf102 rfl rfl (by rw [ln_128]; exact c129)) (by kernel_rfl) rfl fun a h => ?_
 refine a_hoist (i := 10) h rfl rfl rfl rfl (fun w => v_move rfl) (by kernel_rfl) rfl fun a h => ?_
 refine a_hoist (i := 11) h rfl rfl rfl rfl (fun w => v_move rfl) (by kernel_rfl) rfl fun a h => ?_
 refine a_hoist (i := 12) h rfl rfl rfl rfl (fun w => v_idxRow hsv_128 underlying41 sizeOf102 rfl rfl (by rw [ln_128]; exact c130)) (by kernel_rfl) rfl fun a h => ?_
 refine a_two (i := 9) (j := 13) (by kernel_rfl) rfl rfl (R1.val h rfl (v_loadA cJ_128.1 rfl isAgg102 sizeOf102 hb_128 hpJ_128 cJ_128.2)) (R1.val h rfl (v_loadA cI_128.1 rfl isAgg102 sizeOf102 hb_128 hpI_128 cI_128.2)) ?_ ?_
 have h := h.put (d := 70) rfl (.agg cJ_128.1.toArray)
 refine a_one (i := 13) (by kernel_rfl) rfl (R1.val h rfl (v_loadA cI_128.1 rfl isAgg102 sizeOf102 hb_128 hpI_128 cI_128.2)) rfl ?_
 have h := h.put (d := 74) rfl (.agg cI_128.1.toArray)
 refine a_one (i := 14) (by kernel_rfl) rfl (R1.val h rfl (v_idxRow hsv_128 underlying41 sizeOf102 rfl rfl (by rw [ln_128]; exact c130))) rfl ?_
 have h := h.put (d := 75) rfl (.pointer (some ⟨gb_128, Int.toNat s119.1 * 2, none⟩))
 obtain ⟨w1, hR1, hb1, a1, a2, a3, a4, a5⟩ := r_storeK (ops := _) (P := Tryz.prog) (x := .tmp 75) (y := .tmp 70) (vs := cJ_128.1) h rfl rfl rfl cJ_128.2 ((termEnc).one rJ_128) sizeOf102 hb_128 (row_fit hlI_128 hcl_128)
 refine a_one (i := 15) (by kernel_rfl) rfl hR1 rfl ?_
 refine a_one (i := 16) (by kernel_rfl) rfl (R1.val h rfl (v_idxRow hsv_128 underlying41 sizeOf102 rfl rfl (by rw [ln_128]; exact c129))) rfl ?_
 have h := h.put (d := 76) rfl (.pointer (some ⟨gb_128, Int.toNat z127 * 2, none⟩))
 obtain ⟨w2, hR2, hb2, b1, b2, b3, b4, b5⟩ := r_storeK (ops := _) (P := Tryz.prog) (x := .tmp 76) (y := .tmp 74) (vs := cI_128.1) h rfl rfl rfl cI_128.2 ((termEnc).one rI_128) sizeOf102 hb1 (Nat.le_trans (row_fit hlJ_128 hcl_128) (Nat.le_of_eq p128.2.1.symm))
 refine a_one (i := 17) (by kernel_rfl) rfl hR2 rfl ?_
 refine a_end (by kernel_rfl) ?_
 have H := H.swapN (i := 0) (p := Int.toNat s119.1) (q := Int.toNat z127) rfl hsv_128 hlI_128 hlJ_128 hb_128 hcl_128 hct_128 hb2 (b1.trans a1) (b2.trans a2) (b3.trans a3) (b4.trans a4) (fun c hc => (b5 c hc).trans (a5 c hc)) (hl' := [_]) rfl
 have el0 := EL.set rI_128 (Int.toNat z127) (EL.set rJ_128 (Int.toNat s119.1) el0)
 rw [← ezrow_131] at el0
 have h := h.only [0, 10, 13] (l' := [_, _, _]) rfl
 have H : HZ B0 _ _ [_] _ := H
 generalize w2 = w at h H
 refine c_lregion ?_
 refine cps 1 h rfl fun a h => ?_
 refine sI h hS rfl (v_addw rfl rfl) fun z132 e132 hS a h => ?_
 refine cps 1 h rfl fun a h => ?_
 refine c_lnil ?_
 exact exL (ex3 ⟨lpN en119 hS, h.to, H, el0⟩)
 have h := h.put (d := 74) rfl (.agg cI_128.1.toArray)
 refine a_one (i := 9) (by kernel_rfl) rfl (R1.val h rfl (v_loadA cJ_128.1 rfl isAgg102 sizeOf102 hb_128 hpJ_128 cJ_128.2)) rfl ?_
 have h := h.put (d := 70) rfl (.agg cJ_128.1.toArray)
 refine a_one (i := 14) (by kernel_rfl) rfl (R1.val h rfl (v_idxRow hsv_128 underlying41 sizeOf102 rfl rfl (by rw [ln_128]; exact c130))) rfl ?_
 have h := h.put (d := 75) rfl (.pointer (some ⟨gb_128, Int.toNat s119.1 * 2, none⟩))
 obtain ⟨w1, hR1, hb1, a1, a2, a3, a4, a5⟩ := r_storeK (ops := _) (P := Tryz.prog) (x := .tmp 75) (y := .tmp 70) (vs := cJ_128.1) h rfl rfl rfl cJ_128.2 ((termEnc).one rJ_128) sizeOf102 hb_128 (row_fit hlI_128 hcl_128)
 refine a_one (i := 15) (by kernel_rfl) rfl hR1 rfl ?_
 refine a_one (i := 16) (by kernel_rfl) rfl (R1.val h rfl (v_idxRow hsv_128 underlying41 sizeOf102 rfl rfl (by rw [ln_128]; exact c129))) rfl ?_
 have h := h.put (d := 76) rfl (.pointer (some ⟨gb_128, Int.toNat z127 * 2, none⟩))
 obtain ⟨w2, hR2, hb2, b1, b2, b3, b4, b5⟩ := r_storeK (ops := _) (P := Tryz.prog) (x := .tmp 76) (y := .tmp 74) (vs := cI_128.1) h rfl rfl rfl cI_128.2 ((termEnc).one rI_128) sizeOf102 hb1 (Nat.le_trans (row_fit hlJ_128 hcl_128) (Nat.le_of_eq p128.2.1.symm))
 refine a_one (i := 17) (by kernel_rfl) rfl hR2 rfl ?_
 refine a_end (by kernel_rfl) ?_
 have H := H.swapN (i := 0) (p := Int.toNat s119.1) (q := Int.toNat z127) rfl hsv_128 hlI_128 hlJ_128 hb_128 hcl_128 hct_128 hb2 (b1.trans a1) (b2.trans a2) (b3.trans a3) (b4.trans a4) (fun c hc => (b5 c hc).trans (a5 c hc)) (hl' := [_]) rfl
 have el0 := EL.set rI_128 (Int.toNat z127) (EL.set rJ_128 (Int.toNat s119.1) el0)
 rw [← ezrow_131] at el0
 have h := h.only [0, 10, 13] (l' := [_, _, _]) rfl
 have H : HZ B0 _ _ [_] _ := H
 generalize w2 = w at h H
 refine c_lregion ?_
 refine cps 1 h rfl fun a h => ?_
 refine sI h hS rfl (v_addw rfl rfl) fun z133 e133 hS a h => ?_
 refine cps 1 h rfl fun a h => ?_
 refine c_lnil ?_
 exact exL (ex3 ⟨lpN en119 hS, h.to, H, el0⟩)
 refine c_exit ?_
 refine cO h [] [] fun h => ?_
 cases hS
 refine r0 hr h rfl ⟨rfl, _, H.hp.getRow 0 rfl, el0, H.outB⟩
 obtain ⟨B134, eB134, hS⟩ := bv hS
 refine lpJ (fun mu_ a w => ∃ (Z : FZ) (s134 : Int × Int), loopF B134 mu_ s134 = some res ∧ Fr 220 [(0, xv0), (1, .int .i64 x1), (4, .func (.func fi4) #[] cp4), (10, .int .i64 s134.1), (11, .int .i64 s134.2)] a ∧ HZ B0 Zi Z [.row 102 2 xv0 cs0.length (cs0.flatMap Subtype.val)] w ∧ EL termEnc Zi cs0 x0) KK ⟨_, _, hS, h.to, H, el0⟩ ?_
 rintro mu_ a w ⟨Z, s134, hS, h, H, el0⟩
 obtain ⟨mu_, rfl, n134, en134, hS⟩ := lpX eB134 hS
 refine sq ?_
 refine rg fun K k => ?_
 refine cps 2 h rfl fun a h => ?_
 refine sB h hS rfl (v_lt rfl rfl) fun z137 e137 hS a h => ?_
 refine cz k ?_
 refine cI h hS rfl (fun ec138 hS => ?_) fun ec138 hS => ?_
 refine c_skip ?_
 refine lb ?_
 refine rg fun K k => ?_
 refine cps 2 h rfl fun a h => ?_
 refine sI h hS rfl (v_addw rfl rfl) fun z140 e140 hS a h => ?_
 refine sI h hS rfl (v_convInt (by rw [underlying3]; rfl) underlying68 rfl rfl) fun z141 e141 hS a h => ?_
 obtain ⟨c142, hS⟩ := ck hS
 refine sI h hS rfl (v_shr rfl rfl c142) fun z143 e143 hS a h => ?_
 refine sI h hS rfl (v_convInt (by rw [underlying68]; rfl) underlying3 rfl rfl) fun z144 e144 hS a h => ?_
 refine cps 1 h rfl fun a h => ?_
 refine cN k h [0, 1, 4, 10, 11, 12] [_, _, _, _, _, _] fun h => ?_
 refine fl h ?_
 refine fcps 3 rfl ?_
 obtain ⟨c145, hS⟩ := ck hS
 obtain ⟨z146, e146, hS⟩ := bv hS
 have q_147 := el0.gel ⟨_, termEnc_dflt⟩ z144
 rw [← e146] at q_147
 obtain ⟨cl_147, hc_147, v43_147_1, hcs_147, r43_147_1⟩ := q_147
 refine f_op [41, 42] rfl rfl rfl rfl false (.rel (fun w' v' => At w' v' (fun _ : Unit => [.int .i64 z146.n, v43_147_1]) () 0)) at_stab (fun w X => ?_) ?_
 skip
 exact have H := H.ext X; d_idxC underlying41 sizeOf102 rfl rfl (H.getRow (i := 0) rfl) c145.1 (hc_147 c145) hcs_147
 refine f_op [43] rfl rfl rfl rfl false (.eq (.agg #[.int .i64 z146.n, v43_147_1])) trivial (fun w X => ?_) ?_
 intro v43 h43
 exact (v_loadAtA [_, _] rfl h43 isAgg102 sizeOf102 rfl rfl).doesF
 refine fcps 2 rfl ?_
 obtain ⟨c148, hS⟩ := ck hS
 obtain ⟨z149, e149, hS⟩ := bv hS
 have q_150 := el0.gel ⟨_, termEnc_dflt⟩ x1
 rw [← e149] at q_150
 obtain ⟨cl_150, hc_150, v47_150_1, hcs_150, r47_150_1⟩ := q_150
 refine f_op [45, 46] rfl rfl rfl rfl false (.rel (fun w' v' => At w' v' (fun _ : Unit => [.int .i64 z149.n, v47_150_1]) () 0)) at_stab (fun w X => ?_) ?_
 skip
 exact have H := H.ext X; d_idxC underlying41 sizeOf102 rfl rfl (H.getRow (i := 0) rfl) c148.1 (hc_150 c148) hcs_150
 refine f_op [47] rfl rfl rfl rfl false (.eq (.agg #[.int .i64 z149.n, v47_150_1])) trivial (fun w X => ?_) ?_
 intro v47 h47
 exact (v_loadAtA [_, _] rfl h47 isAgg102 sizeOf102 rfl rfl).doesF
 refine fC hS rfl (fun y151 f151 w X => have H := H.ext X; d_fnE hf4 H.zini rfl (ca := [.int .i64 z146.n, v43_147_1]) (cb := [.int .i64 z149.n, v47_150_1]) rfl ⟨_, rfl, r43_147_1⟩ ⟨_, rfl, r47_150_1⟩ f151) fun y151 hS => ?_
 refine fB hS rfl (fun w X => v_lt rfl rfl) fun z152 e152 hS => ?_
 refine fE [0, 1, 4, 10, 11, 12, 50] [_, _, _, _, _, _, _] H fun a w X H h => ?_
 refine cI h hS rfl (fun ec153 hS => ?_) fun ec153 hS => ?_
 refine c_lregion ?_
 refine cps 1 h rfl fun a h => ?_
 refine sI h hS rfl (v_addw rfl rfl) fun z154 e154 hS a h => ?_
 refine cps 1 h rfl fun a h => ?_
 refine c_lnil ?_
 exact exL (ex2 ⟨lpN en134 hS, h.to, H, el0⟩)
 refine c_lregion ?_
 refine cps 2 h rfl fun a h => ?_
 refine c_lnil ?_
 exact exL (ex2 ⟨lpN en134 hS, h.to, H, el0⟩)
 exact c_exit (ex2 ⟨hS, h.to, H, el0⟩)
 exact c_skip (ex3 ⟨hS, h.to, H, el0⟩)
theorem slices_symMergeCmpFunc_Term_ok (k : Nat) : ∀ {x0 : List (T)} {x1 : Int} {x2 : Int} {x3 : Int} {x4 : T → T → Option (Int)} {res : List (T)} {w0 : World} (hS : slices_symMergeCmpFunc_Term k x0 x1 x2 x3 x4 = some res) {Z : FZ} (hZ : Z.inn w0) {xv0 : Value} {cs0 : List (Cl 2)} (rp0 : w0.ownsRow 0 102 2 xv0 cs0.length (cs0.flatMap Subtype.val)) (el0 : EL termEnc Z cs0 x0) (off0 : ∀ b, xv0.ownBlock = some b → Z b = none) {fi4 : FuncId} {cp4 : Array Value} (hf4 : FnE Tryz.prog fi4 cp4 Z termEnc (fun r : Int => .int .i64 r) x4) {B0 : Bs} (eB : B0 = ⟨w0, xv0.ownBlock.toList⟩) {Zi : FZ} (eZ : Zi = Z), Calls Tryz.prog 189 [xv0, .int .i64 x1, .int .i64 x2, .int .i64 x3, .func (.func fi4) #[] cp4].toArray w0 (Ret fun v w => v = .tuple #[] ∧ ∃ css : List (Cl 2), w.ownsRow 0 102 2 xv0 css.length (css.flatMap Subtype.val) ∧ EL termEnc Zi css res ∧ ExtB B0 w) := by
 induction k with
 | zero => intro x0 x1 x2 x3 x4 res w0 hS; exact nomatch (show (none : Option (List (T))) = some res from hS)
 | succ k ih => exact @slices_symMergeCmpFunc_Term_B_ok (slices_symMergeCmpFunc_Term k) @ih
end Go.Proofs.YtcecjdnkcbfhlaaGreatDoor
