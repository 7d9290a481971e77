/- Joined texts. -/
import Derived.Test.YtcecjdnkcbfhlaaGreatDoorLU0
import Derived.Test.YtcecjdnkcbfhlaaGreatDoorLWkSh
set_option linter.unusedSimpArgs false
set_option linter.unusedVariables false
set_option linter.unusedSectionVars false
namespace Go.Proofs.YtcecjdnkcbfhlaaGreatDoor
open Go.Stp Go.RowKit Go.ValP Go.Sp _root_.Go.Proofs.Tryz
set_option maxRecDepth 100000
theorem step_done_ok {x0 : Nd} {res : Bool} {w0 : World} (hS : step_done x0 = some res) {xv0 : Value} (rp0 : RdN (hz w0) xv0 nodeEnc x0.l) : Calls Tryz.prog 65 [(nA x0 xv0)].toArray w0 (Ret fun v w => v = .bool res ∧ Ext w0 w) := by
 refine en func65 [0] [_] fun Q a Zi Z hzs H h hr => ?_
 have rp0 := rp0.sub hzs
 clear hzs
 unfold step_done at hS
 refine rg fun K k => z_box h H rfl O17 rfl rfl fun a p1 w X H h => ?_
 have H : HZ w0 _ _ [_] _ := H
 refine cps 1 h rfl fun a h => cz k <| rg fun K k => s1 h rfl (v_fieldAddr rfl U33 rfl Z3 rfl rfl) fun a h => ?_
 refine s1 h rfl (l1 H 0 A3) fun a h => ?_
 refine sB h hS rfl (v_eq rfl rfl) fun z2 e2 hS a h => ?_
 refine cps 1 h rfl fun a h => cN k h [2] [_] fun h => ?_
 cases hS
 refine r1 hr h rfl rfl ⟨rfl, H.out⟩
theorem step_at_ok {rec : Nd → (List V) → Option (Nd)} (hrec : ∀ {x0 : Nd} {x1 : List V} {res : Nd} {w0 : World} (hS : rec x0 x1 = some res) {Z : FZ} (hZ : Z.inn w0) {xv0 : Value} (rp0 : RdN Z xv0 nodeEnc x0.l) {pb1 : Nat} (hp1 : Z pb1 = some (Cel ((x1 : List V).flatMap vL) 39)) (lp1 : x1.length = 128) (hG : GW w0), Calls Tryz.prog 41 [(nA x0 xv0), .iface 35 (pt pb1)].toArray w0 (Ret fun v w => ∃ u1, v = .agg #[.int .i64 res.k, .int .i64 res.op, .int .i64 res.v.k, .int .i64 res.v.n, S res.v.s, .int .i64 res.a.c.s, .int .i64 res.a.c.c, .int .i64 res.a.c.r, .bool res.a.ac, .bool res.a.ar, .int .i64 res.b.c.s, .int .i64 res.b.c.c, .int .i64 res.b.c.r, .bool res.b.ac, .bool res.b.ar, S res.nm, u1] ∧ RdN (ZB Z w0.heap.size w) u1 nodeEnc res.l ∧ Ext w0 w)) {x0 : Nd} {x1 : Int} {x2 : List V} {res : Nd} {w0 : World} (hS : step_at rec x0 x1 x2 = some res) {Z : FZ} (hZ : Z.inn w0) {xv0 : Value} (rp0 : RdN Z xv0 nodeEnc x0.l) {pb2 : Nat} (hp2 : Z pb2 = some (Cel ((x2 : List V).flatMap vL) 39)) (lp2 : x2.length = 128) (hG : GW w0) : Calls Tryz.prog 96 [(nA x0 xv0), .int .i64 x1, .iface 35 (pt pb2)].toArray w0 (Ret fun v w => ∃ u1, v = .agg #[.int .i64 res.k, .int .i64 res.op, .int .i64 res.v.k, .int .i64 res.v.n, S res.v.s, .int .i64 res.a.c.s, .int .i64 res.a.c.c, .int .i64 res.a.c.r, .bool res.a.ac, .bool res.a.ar, .int .i64 res.b.c.s, .int .i64 res.b.c.c, .int .i64 res.b.c.r, .bool res.b.ac, .bool res.b.ar, S res.nm, u1] ∧ RdN (ZB Z w0.heap.size w) u1 nodeEnc res.l ∧ Ext w0 w) := by
 refine enS hZ func96 [0, 1, 2] O3 fun Q a Zi eZi H h hr => ?_
 try rw [← eZi] at hr
 clear eZi
 unfold step_at at hS
 refine rg fun K k => z_box h H rfl O17 rfl rfl fun a p1 w X H h => ?_
 have H : HZ w0 _ _ [_] _ := H
 refine zA h H V33 O17 (fun x => [_, x]) fun a p2 w X H h => ?_
 refine cz k <| rg fun K k => s1 h rfl (v_fieldAddr rfl U33 rfl Z31 rfl rfl) fun a h => ?_
 refine s1 h rfl (l1 H 0 A31) fun a h => ?_
 have H := H.nilRow 33 17 rfl
 have H : HZ w0 _ _ O3 _ := H
 have el2 : EL nodeEnc Z ([] : List (Cl 17)) ([] : List (Nd)) := trivial
 obtain ⟨c4, hS⟩ := ck hS
 obtain ⟨z5, e5, hS⟩ := bv hS
 obtain ⟨cy_3, ry_3, ey_3⟩ := id rp0
 refine z_appendS (enc := (Subtype.val (p := fun l : List Value => l.length = 17))) (out := ([] : List (Cl 17))) (data := cy_3) h H 2 rfl U31 app33 rfl rfl rfl ry_3 (fun c => c.2) ey_3.one (bnd el2.len ey_3.len c4) rfl fun a v10_3 w H h => ?_
 have el2 := EL.append el2 ey_3
 rw [← e5] at el2
 have el2 : EL nodeEnc Z (List.append (α := Cl 17) ([] : List (Cl 17)) cy_3) z5 := el2
 have H : HZ w0 _ _ O3 _ := H
 refine cps 1 h rfl fun a h => cN k h [1, 2, 3, 6, 7] O5 fun h => ?_
 refine rg fun K k => cps 4 h rfl fun a h => ?_
 obtain ⟨c6, hS⟩ := ck hS
 obtain ⟨z7, e7, hS⟩ := bv hS
 have q_8 := el2.gel ⟨_, nodeEnc_dflt⟩ x1
 rw [← e7] at q_8
 obtain ⟨cl_8, hc_8, q_8⟩ := q_8
 obtain ⟨v15_8_1, hcs_8, r15_8_1⟩ := node_op q_8
 refine st_idxC h U31 Z33 rfl rfl (H.getRow (i := 2) rfl) c6.1 (hc_8 c6) hcs_8 rfl fun a v15 A15 h => ?_
 refine s1 h rfl (v_loadAtA O17 rfl A15 A33 Z33 rfl rfl) fun a h => ?_
 refine cps 1 h rfl fun a h => ?_
 obtain ⟨y9, f9, hS⟩ := bo hS
 refine st2 h rfl rfl rfl (dC call41 (hrec f9 H.zin r15_8_1 hp2 lp2 (hG.ext H.out))) ?_
 rintro v_ w ⟨v18_10_1, rfl, r18_10_1, X⟩ a h
 obtain ⟨Z, hsub, hadd, H⟩ := H.adopt' X
 have el2 := el2.sub hsub
 have r15_8_1 := r15_8_1.sub hsub
 have rp0 := rp0.sub hsub
 have hp2 := hsub _ _ hp2
 have r18_10_1 := r18_10_1.sub hadd
 have A15 := At.ext A15 X
 obtain ⟨c11, hS⟩ := ck hS
 obtain ⟨z12, e12, hS⟩ := bv hS
 have q_13 := el2.gel ⟨_, nodeEnc_dflt⟩ x1
 rw [← e12] at q_13
 obtain ⟨cl_13, hc_13, q_13⟩ := q_13
 obtain ⟨v19_13_1, hcs_13, r19_13_1⟩ := node_op q_13
 have ln_13 : ([] ++ cy_3 : List (Cl 17)).length = z5.length := el2.len
 obtain ⟨gb_13, cap_13, hsv_13⟩ := H.rowPtr (i := 2) rfl (by have h_ : 0 < ([] ++ cy_3 : List (Cl 17)).length := (by omega); exact h_)
 refine s1 h rfl (v_idxRow hsv_13 U31 Z33 rfl rfl (by have h_ : (0 : Int) ≤ x1 ∧ x1 < (([] ++ cy_3 : List (Cl 17)).length : Int) := (by omega); exact h_)) fun a h => ?_
 obtain ⟨zr2_14, ezr2_14, hS⟩ := bv hS
 refine z_storeN h H 2 rfl hsv_13 (Int.toNat x1) (hc_13 c11) (j := 0) rfl rfl Z33 O17 rfl rfl (by obtain ⟨_, _, _, e_⟩ := (r18_10_1).form; subst e_; rfl) (by decide) (c' := (⟨(nL y9 v18_10_1), rfl⟩ : Cl 17)) (by rw [hcs_13]; rfl) (hl' := O3) rfl fun w H => ?_
 have el2 := EL.set (E := nodeEnc) (x := y9) (c := ⟨(nL y9 v18_10_1), rfl⟩) (node_mk ⟨_, rfl, r18_10_1⟩) (Int.toNat x1) el2
 rw [← ezr2_14] at el2
 have el2 : EL nodeEnc Z (List.set (α := Cl 17) ((List.append (α := Cl 17) ([] : List (Cl 17)) cy_3)) (Int.toNat x1) ⟨(nL y9 v18_10_1), rfl⟩) zr2_14 := el2
 have H : HZ w0 _ _ O3 _ := H
 refine cN k h [3, 6, 7] O3 fun h => ?_
 refine rg fun K k => cps 1 h rfl fun a h => s1 h rfl (v_fieldAddr rfl U33 rfl Z31 rfl rfl) fun a h => ?_
 refine z_store h H 0 rfl rfl rfl Z31 [v10_3] (by rw [(H.rowN (i := 2) rfl el2).cells]) rfl (by obtain ⟨_, _, _, e_⟩ := (H.rowN (i := 2) rfl el2).form; subst e_; rfl) (by simp) O17 rfl (hl' := O3) rfl fun w H => ?_
 refine cz k <| rg fun K k => s1 h rfl (lA H 0 A33 Z33 O17) fun a h => ?_
 refine z_store h H 1 rfl rfl rfl Z33 O17 rfl rfl (by obtain ⟨_, _, _, e_⟩ := (H.rowN (i := 2) rfl el2).form; subst e_; rfl) (by simp) O17 rfl (hl' := O3) rfl fun w H => ?_
 refine cN k h [6] [_] fun h => ?_
 cases hS
 refine r1 hr h rfl (rvA H 1 A33 Z33 O17) ⟨_, rfl, H.backRowN (i := 2) rfl el2, H.out⟩
theorem step_operator_ok {rec : Nd → (List V) → Option (Nd)} (hrec : ∀ {x0 : Nd} {x1 : List V} {res : Nd} {w0 : World} (hS : rec x0 x1 = some res) {Z : FZ} (hZ : Z.inn w0) {xv0 : Value} (rp0 : RdN Z xv0 nodeEnc x0.l) {pb1 : Nat} (hp1 : Z pb1 = some (Cel ((x1 : List V).flatMap vL) 39)) (lp1 : x1.length = 128) (hG : GW w0), Calls Tryz.prog 41 [(nA x0 xv0), .iface 35 (pt pb1)].toArray w0 (Ret fun v w => ∃ u1, v = .agg #[.int .i64 res.k, .int .i64 res.op, .int .i64 res.v.k, .int .i64 res.v.n, S res.v.s, .int .i64 res.a.c.s, .int .i64 res.a.c.c, .int .i64 res.a.c.r, .bool res.a.ac, .bool res.a.ar, .int .i64 res.b.c.s, .int .i64 res.b.c.c, .int .i64 res.b.c.r, .bool res.b.ac, .bool res.b.ar, S res.nm, u1] ∧ RdN (ZB Z w0.heap.size w) u1 nodeEnc res.l ∧ Ext w0 w)) {x0 : Nd} {x1 : List V} {res : Nd} {w0 : World} (hS : step_operator rec x0 x1 = some res) {Z : FZ} (hZ : Z.inn w0) {xv0 : Value} (rp0 : RdN Z xv0 nodeEnc x0.l) {pb1 : Nat} (hp1 : Z pb1 = some (Cel ((x1 : List V).flatMap vL) 39)) (lp1 : x1.length = 128) (hG : GW w0) : Calls Tryz.prog 66 [(nA x0 xv0), .iface 35 (pt pb1)].toArray w0 (Ret fun v w => ∃ u1, v = .agg #[.int .i64 res.k, .int .i64 res.op, .int .i64 res.v.k, .int .i64 res.v.n, S res.v.s, .int .i64 res.a.c.s, .int .i64 res.a.c.c, .int .i64 res.a.c.r, .bool res.a.ac, .bool res.a.ar, .int .i64 res.b.c.s, .int .i64 res.b.c.c, .int .i64 res.b.c.r, .bool res.b.ac, .bool res.b.ar, S res.nm, u1] ∧ RdN (ZB Z w0.heap.size w) u1 nodeEnc res.l ∧ Ext w0 w) := by
 refine enS hZ func66 [0, 1] O2 fun Q a Zi eZi H h hr => ?_
 try rw [← eZi] at hr
 clear eZi
 unfold step_operator at hS
 refine rg fun K k => z_box h H rfl O17 rfl rfl fun a p1 w X H h => ?_
 have H : HZ w0 _ _ [_] _ := H
 refine zA h H V33 O17 (fun x => [_, x]) fun a p2 w X H h => ?_
 refine cz k ?_
 obtain ⟨J4, eJ4, hS⟩ := bv hS
 refine sqJ (fun a w => ∃ (Z : FZ) (s4 : Int × Int × Int × Int × (List UInt8) × Int × Int × Int × Bool × Bool × Int × Int × Int × Bool × Bool × (List UInt8) × (List (Nd))) (v1_16_5 : Value), J4 s4 = some res ∧ Fr 54 [(2, (pt p1)), (4, (pt p2))] a ∧ HZ w0 Zi Z [.blk p1 (Cel (nL x0 xv0) 33), .blk p2 (Cel [.int .i64 s4.1, .int .i64 s4.2.1, .int .i64 s4.2.2.1, .int .i64 s4.2.2.2.1, S s4.2.2.2.2.1, .int .i64 s4.2.2.2.2.2.1, .int .i64 s4.2.2.2.2.2.2.1, .int .i64 s4.2.2.2.2.2.2.2.1, .bool s4.2.2.2.2.2.2.2.2.1, .bool s4.2.2.2.2.2.2.2.2.2.1, .int .i64 s4.2.2.2.2.2.2.2.2.2.2.1, .int .i64 s4.2.2.2.2.2.2.2.2.2.2.2.1, .int .i64 s4.2.2.2.2.2.2.2.2.2.2.2.2.1, .bool s4.2.2.2.2.2.2.2.2.2.2.2.2.2.1, .bool s4.2.2.2.2.2.2.2.2.2.2.2.2.2.2.1, S s4.2.2.2.2.2.2.2.2.2.2.2.2.2.2.2.1, v1_16_5] 33)] w ∧ RdN Z v1_16_5 nodeEnc s4.2.2.2.2.2.2.2.2.2.2.2.2.2.2.2.2 ∧ RdN Z xv0 nodeEnc x0.l ∧ Z pb1 = some (Cel ((x1 : List V).flatMap vL) 39)) ?_ ?_
 rintro a w ⟨Z, s4, v1_16_5, hS, h, H, r1_16_5, rp0, hp1⟩
 subst eJ4
 refine sq <| rg fun K k => s1 h rfl (v_fieldAddr rfl U33 rfl Z3 rfl rfl) fun a h => ?_
 refine s1 h rfl (l1 H 0 A3) fun a h => ?_
 refine sB h hS rfl (v_eq rfl rfl) fun z7 e7 hS a h => ?_
 refine cz k <| cI h hS rfl (fun ec8 hS => ?_) fun ec8 hS => ?_
 refine flT 14 h fun K k => ?_
 refine F1 rfl (fun w X => v_fieldAddr rfl U33 rfl Z3 rfl rfl) ?_
 refine F1 rfl (fun w X => have H := H.ext X; l1 H 0 A3) ?_
 refine F1 rfl (fun w X => v_fieldAddr rfl U33 rfl Z31 rfl rfl) ?_
 refine F1 rfl (fun w X => have H := H.ext X; l1 H 0 A31) ?_
 obtain ⟨c9, hS⟩ := ck hS
 obtain ⟨z10, e10, hS⟩ := bv hS
 have q_11 := rp0.gel ⟨_, nodeEnc_dflt⟩ 0
 rw [← e10] at q_11
 obtain ⟨css_11, cl_11, rc_11, hc_11, q_11⟩ := q_11
 obtain ⟨v35_11_1, hcs_11, r35_11_1⟩ := node_op q_11
 refine f_op [34] rfl rfl rfl rfl false (.rel (fun w' v' => At w' v' (fun _ : Unit => (nL z10 v35_11_1)) () 0)) at_stab (fun w X => ?_) ?_
 skip
 exact have H := H.ext X; d_idxC U31 Z33 rfl rfl (rc_11.at H.zin) c9.1 (hc_11 c9) hcs_11
 refine f_op [35] rfl rfl rfl rfl false (.rel (fun w' v' => At w' v' (fun _ : Unit => (nL z10 v35_11_1)) () 2)) at_stab (fun w X => ?_) ?_
 intro v35 h35
 exact d_field rfl h35 U33 rfl Z26 rfl rfl
 refine f_op [36] rfl rfl rfl rfl false (.eq (vA z10.v)) trivial (fun w X => ?_) ?_
 intro v36 h36
 exact (v_loadAtA O3 rfl h36 A26 Z26 rfl rfl).doesF
 refine F1 rfl (fun w X => v_fieldAddr rfl U33 rfl Z31 rfl rfl) ?_
 refine F1 rfl (fun w X => have H := H.ext X; l1 H 0 A31) ?_
 obtain ⟨c12, hS⟩ := ck hS
 obtain ⟨z13, e13, hS⟩ := bv hS
 have q_14 := rp0.gel ⟨_, nodeEnc_dflt⟩ 1
 rw [← e13] at q_14
 obtain ⟨css_14, cl_14, rc_14, hc_14, q_14⟩ := q_14
 obtain ⟨v40_14_1, hcs_14, r40_14_1⟩ := node_op q_14
 refine f_op [39] rfl rfl rfl rfl false (.rel (fun w' v' => At w' v' (fun _ : Unit => (nL z13 v40_14_1)) () 0)) at_stab (fun w X => ?_) ?_
 skip
 exact have H := H.ext X; d_idxC U31 Z33 rfl rfl (rc_14.at H.zin) c12.1 (hc_14 c12) hcs_14
 refine f_op [40] rfl rfl rfl rfl false (.rel (fun w' v' => At w' v' (fun _ : Unit => (nL z13 v40_14_1)) () 2)) at_stab (fun w X => ?_) ?_
 intro v40 h40
 exact d_field rfl h40 U33 rfl Z26 rfl rfl
 refine f_op [41] rfl rfl rfl rfl false (.eq (vA z13.v)) trivial (fun w X => ?_) ?_
 intro v41 h41
 exact (v_loadAtA O3 rfl h41 A26 Z26 rfl rfl).doesF
 refine fC hS rfl (fun y15 f15 w X => have H := H.ext X; dC call88 (funcs_Binary_ok f15 (hG.ext H.out) :)) fun y15 hS => ?_
 obtain ⟨y16, f16, hS⟩ := bo hS
 refine f_op [43] rfl rfl rfl rfl false (.rel (fun w' v' => ∃ v44_17_1, v' = .agg #[.int .i64 y16.k, .int .i64 y16.op, .int .i64 y16.v.k, .int .i64 y16.v.n, S y16.v.s, .int .i64 y16.a.c.s, .int .i64 y16.a.c.c, .int .i64 y16.a.c.r, .bool y16.a.ac, .bool y16.a.ar, .int .i64 y16.b.c.s, .int .i64 y16.b.c.c, .int .i64 y16.b.c.r, .bool y16.b.ac, .bool y16.b.ar, S y16.nm, v44_17_1] ∧ RdN (ZB Z w.heap.size w') v44_17_1 nodeEnc y16.l)) (fun w w' v X h => by obtain ⟨v44_17_1, hv, hr0⟩ := h; exact ⟨_, hv, hr0.sub (ZB.grow X)⟩) (fun w X => ?_) ?_
 skip
 exact have Hs := ZB.of H.zin X; have H := H.ext X; Does.doesR (dC call32 (tree_Value_ok (x0 := y15) f16)) (fun v w' hr => by obtain ⟨v44_17_1, hv, hr0, X'⟩ := hr; exact ⟨⟨_, hv, hr0.sub (ZB.back X X')⟩, X'⟩)
 refine fn_ ?_
 intro a w X hR hA
 obtain ⟨_, ⟨v44_17_1, rfl, r44_17_1⟩, h⟩ := hR.out [4, 44]
 have h : Fr 54 [(44, _), (4, _)] a := h
 obtain ⟨Z, hsub, hadd, H⟩ := H.adopt' X
 have r1_16_5 := r1_16_5.sub hsub
 have r35_11_1 := r35_11_1.sub hsub
 have r40_14_1 := r40_14_1.sub hsub
 have rp0 := rp0.sub hsub
 have hp1 := hsub _ _ hp1
 have r44_17_1 := r44_17_1.sub hadd
 refine z_store h H 1 rfl rfl rfl Z33 O17 rfl rfl (by obtain ⟨_, _, _, e_⟩ := (r44_17_1).form; subst e_; rfl) (by simp) O17 rfl (hl' := O2) rfl fun w H => ?_
 refine cz k ?_
 cases hS
 refine r1 hr h rfl (rvA H 1 A33 Z33 O17) ⟨_, rfl, r44_17_1.sub H.back, H.out⟩
 refine c_skip <| cO h [4] [_] fun h => ?_
 exact nomatch hS
 refine rg fun K k => s1 h rfl (v_fieldAddr rfl U33 rfl Z31 rfl rfl) fun a h => ?_
 refine s1 h rfl (l1 H 0 A31) fun a h => ?_
 refine s1 h rfl (v_lenN U31 rfl rp0 H.zin) fun a h => ?_
 refine cps 1 h rfl fun a h => cz k <| lb ?_
 obtain ⟨B19, eB19, hS⟩ := bv hS
 refine lpJ (fun mu_ a w => ∃ (Z : FZ) (s19 : Int × Int × Int × Int × Int × (List UInt8) × Int × Int × Int × Bool × Bool × Int × Int × Int × Bool × Bool × (List UInt8) × (List (Nd))) (v1_16_21 : Value), loopF B19 mu_ s19 = some res ∧ Fr 54 [(1, .iface 35 (pt pb1)), (2, (pt p1)), (4, (pt p2)), (8, xv0), (9, .int .i64 (x0.l.length : Int)), (10, .int .i64 s19.1)] a ∧ HZ w0 Zi Z [.blk p1 (Cel (nL x0 xv0) 33), .blk p2 (Cel [.int .i64 s19.2.1, .int .i64 s19.2.2.1, .int .i64 s19.2.2.2.1, .int .i64 s19.2.2.2.2.1, S s19.2.2.2.2.2.1, .int .i64 s19.2.2.2.2.2.2.1, .int .i64 s19.2.2.2.2.2.2.2.1, .int .i64 s19.2.2.2.2.2.2.2.2.1, .bool s19.2.2.2.2.2.2.2.2.2.1, .bool s19.2.2.2.2.2.2.2.2.2.2.1, .int .i64 s19.2.2.2.2.2.2.2.2.2.2.2.1, .int .i64 s19.2.2.2.2.2.2.2.2.2.2.2.2.1, .int .i64 s19.2.2.2.2.2.2.2.2.2.2.2.2.2.1, .bool s19.2.2.2.2.2.2.2.2.2.2.2.2.2.2.1, .bool s19.2.2.2.2.2.2.2.2.2.2.2.2.2.2.2.1, S s19.2.2.2.2.2.2.2.2.2.2.2.2.2.2.2.2.1, v1_16_21] 33)] w ∧ RdN Z v1_16_21 nodeEnc s19.2.2.2.2.2.2.2.2.2.2.2.2.2.2.2.2.2 ∧ RdN Z xv0 nodeEnc x0.l ∧ Z pb1 = some (Cel ((x1 : List V).flatMap vL) 39)) KK ⟨_, _, _, hS, h.to, H, RdN.nil, rp0, hp1⟩ ?_
 rintro mu_ a w ⟨Z, s19, v1_16_21, hS, h, H, r1_16_21, rp0, hp1⟩
 obtain ⟨mu_, rfl, n19, en19, hS⟩ := lpX eB19 hS
 refine rg fun K k => sB h hS rfl (v_lt rfl rfl) fun z22 e22 hS a h => ?_
 refine cz k <| sq <| cI h hS rfl (fun ec24 hS => ?_) fun ec24 hS => ?_
 refine c_skip <| sb ?_
 refine rg fun K k => cps 1 h rfl fun a h => ?_
 obtain ⟨c26, hS⟩ := ck hS
 obtain ⟨z27, e27, hS⟩ := bv hS
 have q_28 := rp0.gel ⟨_, nodeEnc_dflt⟩ s19.1
 rw [← e27] at q_28
 obtain ⟨css_28, cl_28, rc_28, hc_28, q_28⟩ := q_28
 obtain ⟨v13_28_1, hcs_28, r13_28_1⟩ := node_op q_28
 refine st_idxC h U31 Z33 rfl rfl (rc_28.at H.zin) c26.1 (hc_28 c26) hcs_28 rfl fun a v13 A13 h => ?_
 refine s1 h rfl (v_loadAtA O17 rfl A13 A33 Z33 rfl rfl) fun a h => ?_
 refine zA h H V33 O17 (fun x => [_, _, x]) fun a p29 w X H h => ?_
 have A13 := At.ext A13 X
 refine cps 1 h rfl fun a h => z_store h H 2 rfl rfl rfl Z33 O17 rfl rfl (by obtain ⟨_, _, _, e_⟩ := (r13_28_1).form; subst e_; rfl) (by simp) O17 rfl (hl' := O3) rfl fun w H => ?_
 refine cz k <| sq <| rg fun K k => s1 h rfl (lA H 2 A33 Z33 O17) fun a h => ?_
 refine sC h H hS rfl (fun y31 f31 => dC call65 (step_done_ok f31 (r13_28_1.hz H.zin) :)) fun y31 hS w X H a h => ?_
 refine sB h hS rfl (v_not rfl) fun z32 e32 hS a h => ?_
 refine cN k h [1, 2, 4, 5, 6, 8, 9, 10, 17] O9 fun h => ?_
 refine cI h hS rfl (fun ec33 hS => ?_) fun ec33 hS => ?_
 refine rg fun K k => s1 h rfl (lA H 0 A33 Z33 O17) fun a h => ?_
 refine cps 2 h rfl fun a h => ?_
 obtain ⟨y34, f34, hS⟩ := bo hS
 refine st2 h rfl rfl rfl (dC call96 (step_at_ok hrec f34 H.zin rp0 hp1 lp1 (hG.ext H.out))) ?_
 rintro v_ w ⟨v21_35_1, rfl, r21_35_1, X⟩ a h
 obtain ⟨Z, hsub, hadd, H⟩ := H.adopt' X
 have r13_28_1 := r13_28_1.sub hsub
 have r1_16_21 := r1_16_21.sub hsub
 have rp0 := rp0.sub hsub
 have hp1 := hsub _ _ hp1
 have r21_35_1 := r21_35_1.sub hadd
 refine z_store h H 1 rfl rfl rfl Z33 O17 rfl rfl (by obtain ⟨_, _, _, e_⟩ := (r21_35_1).form; subst e_; rfl) (by simp) O17 rfl (hl' := O3) rfl fun w H => ?_
 refine cN k h [4] [_] fun h => ?_
 cases hS
 refine r1 hr h rfl (rvA H 1 A33 Z33 O17) ⟨_, rfl, r21_35_1.sub H.back, H.out⟩
 refine c_skip <| rg fun K k => s1 h rfl (v_fieldAddr rfl U33 rfl Z26 rfl rfl) fun a h => ?_
 refine s1 h rfl (v_fieldAddr rfl U26 rfl Z3 rfl rfl) fun a h => ?_
 refine s1 h rfl (l1 H 2 A3) fun a h => ?_
 refine sB h hS rfl (v_eq rfl rfl) fun z36 e36 hS a h => ?_
 refine cN k h [1, 2, 4, 8, 9, 10, 25] O7 fun h => ?_
 refine cI h hS rfl (fun ec37 hS => ?_) fun ec37 hS => ?_
 exact nomatch hS
 refine c_skip <| c_lregion <| sI h hS rfl (v_addw rfl rfl) fun z38 e38 hS a h => ?_
 refine cps 1 h rfl fun a h => c_lnil ?_
 exact exL (ex3 ⟨lpN en19 hS, h.to, (H.keepN 2 rfl), r1_16_21, rp0, hp1⟩)
 exact c_exit (ex3 ⟨hS, h.to, H, r1_16_21, rp0, hp1⟩)
theorem step_One_B_ok {rec : Nd → (List V) → Option (Nd)} (hrec : ∀ {x0 : Nd} {x1 : List V} {res : Nd} {w0 : World} (hS : rec x0 x1 = some res) {Z : FZ} (hZ : Z.inn w0) {xv0 : Value} (rp0 : RdN Z xv0 nodeEnc x0.l) {pb1 : Nat} (hp1 : Z pb1 = some (Cel ((x1 : List V).flatMap vL) 39)) (lp1 : x1.length = 128) (hG : GW w0), Calls Tryz.prog 41 [(nA x0 xv0), .iface 35 (pt pb1)].toArray w0 (Ret fun v w => ∃ u1, v = .agg #[.int .i64 res.k, .int .i64 res.op, .int .i64 res.v.k, .int .i64 res.v.n, S res.v.s, .int .i64 res.a.c.s, .int .i64 res.a.c.c, .int .i64 res.a.c.r, .bool res.a.ac, .bool res.a.ar, .int .i64 res.b.c.s, .int .i64 res.b.c.c, .int .i64 res.b.c.r, .bool res.b.ac, .bool res.b.ar, S res.nm, u1] ∧ RdN (ZB Z w0.heap.size w) u1 nodeEnc res.l ∧ Ext w0 w)) {x0 : Nd} {x1 : List V} {res : Nd} {w0 : World} (hS : step_One_B rec x0 x1 = some res) {Z : FZ} (hZ : Z.inn w0) {xv0 : Value} (rp0 : RdN Z xv0 nodeEnc x0.l) {pb1 : Nat} (hp1 : Z pb1 = some (Cel ((x1 : List V).flatMap vL) 39)) (lp1 : x1.length = 128) (hG : GW w0) : Calls Tryz.prog 41 [(nA x0 xv0), .iface 35 (pt pb1)].toArray w0 (Ret fun v w => ∃ u1, v = .agg #[.int .i64 res.k, .int .i64 res.op, .int .i64 res.v.k, .int .i64 res.v.n, S res.v.s, .int .i64 res.a.c.s, .int .i64 res.a.c.c, .int .i64 res.a.c.r, .bool res.a.ac, .bool res.a.ar, .int .i64 res.b.c.s, .int .i64 res.b.c.c, .int .i64 res.b.c.r, .bool res.b.ac, .bool res.b.ar, S res.nm, u1] ∧ RdN (ZB Z w0.heap.size w) u1 nodeEnc res.l ∧ Ext w0 w) := by
 refine enS hZ func41 [0, 1] O2 fun Q a Zi eZi H h hr => ?_
 try rw [← eZi] at hr
 clear eZi
 unfold step_One_B at hS
 refine rg fun K k => z_box h H rfl O17 rfl rfl fun a p1 w X H h => ?_
 have H : HZ w0 _ _ [_] _ := H
 refine zA h H V33 O17 (fun x => [_, x]) fun a p2 w X H h => ?_
 refine cz k <| sq <| rg fun K k => s1 h rfl (v_fieldAddr rfl U33 rfl Z3 rfl rfl) fun a h => ?_
 refine s1 h rfl (l1 H 0 A3) fun a h => ?_
 refine cz k <| lb <| rg fun K k => sB h hS rfl (v_eq rfl rfl) fun z5 e5 hS a h => ?_
 refine cps 1 h rfl fun a h => cz k <| cI h hS rfl (fun ec6 hS => ?_) fun ec6 hS => ?_
 refine rg fun K k => s1 h rfl (lA H 0 A33 Z33 O17) fun a h => ?_
 refine z_store h H 1 rfl rfl rfl Z33 O17 rfl rfl (by obtain ⟨_, _, _, e_⟩ := (rp0).form; subst e_; rfl) (by simp) O17 rfl (hl' := O2) rfl fun w H => ?_
 refine cN k h [4] [_] fun h => ?_
 cases hS
 refine r1 hr h rfl (rvA H 1 A33 Z33 O17) ⟨_, rfl, rp0.sub H.back, H.out⟩
 obtain ⟨J8, eJ8, hS⟩ := bv hS
 refine sqJ (fun a w => ∃ (Z : FZ) (s8 : Bool), J8 s8 = some res ∧ Fr 36 [(1, .iface 35 (pt pb1)), (2, (pt p1)), (4, (pt p2)), (6, .int .i64 x0.k), (10, .bool s8)] a ∧ HZ w0 Zi Z [.blk p1 (Cel (nL x0 xv0) 33), .blk p2 (Cel [.int .i64 0, .int .i64 0, .int .i64 0, .int .i64 0, S [], .int .i64 0, .int .i64 0, .int .i64 0, .bool false, .bool false, .int .i64 0, .int .i64 0, .int .i64 0, .bool false, .bool false, S [], .slice none 0 0] 33)] w ∧ RdN Z xv0 nodeEnc x0.l ∧ Z pb1 = some (Cel ((x1 : List V).flatMap vL) 39)) ?_ ?_
 rintro a w ⟨Z, s8, hS, h, H, rp0, hp1⟩
 subst eJ8
 refine cI h hS rfl (fun ec9 hS => ?_) fun ec9 hS => ?_
 refine rg fun K k => s1 h rfl (lA H 0 A33 Z33 O17) fun a h => ?_
 refine s1 h rfl (v_build bld28 [] O3 rfl rfl) fun a h => ?_
 refine cps 1 h rfl fun a h => ?_
 obtain ⟨y10, f10, hS⟩ := bo hS
 refine st2 h rfl rfl rfl (dC call19 (eval_Eval_ok f10 H.zin rp0 hp1 lp1 (hG.ext H.out))) ?_
 rintro v_ w ⟨v17_11_1, rfl, r17_11_1, X⟩ a h
 obtain ⟨Z, hsub, hadd, H⟩ := H.adopt' X
 have rp0 := rp0.sub hsub
 have hp1 := hsub _ _ hp1
 have r17_11_1 := r17_11_1.sub (ZB.empty.trans hadd)
 refine s1 h rfl (v_fieldA O3 rfl underlying51 rfl A26 Z26 rfl) fun a h => ?_
 obtain ⟨y12, f12, hS⟩ := bo hS
 refine st2 h rfl rfl rfl (dC call32 (tree_Value_ok (x0 := y10.v) f12)) ?_
 rintro v_ w ⟨v19_13_1, rfl, r19_13_1, X⟩ a h
 obtain ⟨Z, hsub, hadd, H⟩ := H.adopt' X
 have r17_11_1 := r17_11_1.sub hsub
 have rp0 := rp0.sub hsub
 have hp1 := hsub _ _ hp1
 have r19_13_1 := r19_13_1.sub (ZB.empty.trans hadd)
 refine z_store h H 1 rfl rfl rfl Z33 O17 rfl rfl (by obtain ⟨_, _, _, e_⟩ := (r19_13_1).form; subst e_; rfl) (by simp) O17 rfl (hl' := O2) rfl fun w H => ?_
 refine cN k h [4] [_] fun h => ?_
 cases hS
 refine r1 hr h rfl (rvA H 1 A33 Z33 O17) ⟨_, rfl, r19_13_1.sub H.back, H.out⟩
 obtain ⟨J15, eJ15, hS⟩ := bv hS
 refine sqJ (fun a w => ∃ (Z : FZ) (s15 : Bool), J15 s15 = some res ∧ Fr 36 [(1, .iface 35 (pt pb1)), (2, (pt p1)), (4, (pt p2)), (20, .bool s15)] a ∧ HZ w0 Zi Z [.blk p1 (Cel (nL x0 xv0) 33), .blk p2 (Cel [.int .i64 0, .int .i64 0, .int .i64 0, .int .i64 0, S [], .int .i64 0, .int .i64 0, .int .i64 0, .bool false, .bool false, .int .i64 0, .int .i64 0, .int .i64 0, .bool false, .bool false, S [], .slice none 0 0] 33)] w ∧ RdN Z xv0 nodeEnc x0.l ∧ Z pb1 = some (Cel ((x1 : List V).flatMap vL) 39)) ?_ ?_
 rintro a w ⟨Z, s15, hS, h, H, rp0, hp1⟩
 subst eJ15
 refine cI h hS rfl (fun ec16 hS => ?_) fun ec16 hS => ?_
 refine rg fun K k => s1 h rfl (lA H 0 A33 Z33 O17) fun a h => ?_
 refine cps 1 h rfl fun a h => ?_
 obtain ⟨y17, f17, hS⟩ := bo hS
 refine st2 h rfl rfl rfl (dC call66 (step_operator_ok hrec f17 H.zin rp0 hp1 lp1 (hG.ext H.out))) ?_
 rintro v_ w ⟨v26_18_1, rfl, r26_18_1, X⟩ a h
 obtain ⟨Z, hsub, hadd, H⟩ := H.adopt' X
 have rp0 := rp0.sub hsub
 have hp1 := hsub _ _ hp1
 have r26_18_1 := r26_18_1.sub hadd
 refine z_store h H 1 rfl rfl rfl Z33 O17 rfl rfl (by obtain ⟨_, _, _, e_⟩ := (r26_18_1).form; subst e_; rfl) (by simp) O17 rfl (hl' := O2) rfl fun w H => ?_
 refine cN k h [4] [_] fun h => ?_
 cases hS
 refine r1 hr h rfl (rvA H 1 A33 Z33 O17) ⟨_, rfl, r26_18_1.sub H.back, H.out⟩
 refine c_skip <| sq <| rg fun K k => s1 h rfl (v_fieldAddr rfl U33 rfl Z3 rfl rfl) fun a h => ?_
 refine s1 h rfl (l1 H 0 A3) fun a h => ?_
 refine sB h hS rfl (v_le rfl rfl) fun z20 e20 hS a h => ?_
 refine cN k h [4, 29] O2 fun h => ?_
 refine cI h hS rfl (fun ec21 hS => ?_) fun ec21 hS => ?_
 exact nomatch hS
 refine c_skip ?_
 exact nomatch hS
 refine rg fun K k => sB h hS rfl (v_eq rfl rfl) fun z22 e22 hS a h => ?_
 refine cps 1 h rfl fun a h => cz k <| cI h hS rfl (fun ec23 hS => ?_) fun ec23 hS => ?_
 exact c_skip (ex2 ⟨hS, h.to, H, rp0, hp1⟩)
 refine rg fun K k => sB h hS rfl (v_eq rfl rfl) fun z24 e24 hS a h => ?_
 refine cps 1 h rfl fun a h => cz k <| cI h hS rfl (fun ec25 hS => ?_) fun ec25 hS => ?_
 exact c_skip (ex2 ⟨hS, h.to, H, rp0, hp1⟩)
 refine c_lregion <| sB h hS rfl (v_eq rfl rfl) fun z26 e26 hS a h => ?_
 refine cps 1 h rfl fun a h => c_lnil ?_
 exact ex2 ⟨hS, h.to, H, rp0, hp1⟩
 refine rg fun K k => sB h hS rfl (v_eq rfl rfl) fun z27 e27 hS a h => ?_
 refine cps 1 h rfl fun a h => cN k h [1, 2, 4, 6, 10] O5 fun h => ?_
 refine cI h hS rfl (fun ec28 hS => ?_) fun ec28 hS => ?_
 exact c_skip (ex2 ⟨hS, h.to, H, rp0, hp1⟩)
 refine rg fun K k => sB h hS rfl (v_eq rfl rfl) fun z29 e29 hS a h => ?_
 refine cps 1 h rfl fun a h => cz k <| cI h hS rfl (fun ec30 hS => ?_) fun ec30 hS => ?_
 exact c_skip (ex2 ⟨hS, h.to, H, rp0, hp1⟩)
 refine c_lregion <| sB h hS rfl (v_eq rfl rfl) fun z31 e31 hS a h => ?_
 refine cps 1 h rfl fun a h => c_lnil ?_
 exact ex2 ⟨hS, h.to, H, rp0, hp1⟩
theorem step_One_ok (k : Nat) : ∀ {x0 : Nd} {x1 : List V} {res : Nd} {w0 : World} (hS : step_One k x0 x1 = some res) {Z : FZ} (hZ : Z.inn w0) {xv0 : Value} (rp0 : RdN Z xv0 nodeEnc x0.l) {pb1 : Nat} (hp1 : Z pb1 = some (Cel ((x1 : List V).flatMap vL) 39)) (lp1 : x1.length = 128) (hG : GW w0), Calls Tryz.prog 41 [(nA x0 xv0), .iface 35 (pt pb1)].toArray w0 (Ret fun v w => ∃ u1, v = .agg #[.int .i64 res.k, .int .i64 res.op, .int .i64 res.v.k, .int .i64 res.v.n, S res.v.s, .int .i64 res.a.c.s, .int .i64 res.a.c.c, .int .i64 res.a.c.r, .bool res.a.ac, .bool res.a.ar, .int .i64 res.b.c.s, .int .i64 res.b.c.c, .int .i64 res.b.c.r, .bool res.b.ac, .bool res.b.ar, S res.nm, u1] ∧ RdN (ZB Z w0.heap.size w) u1 nodeEnc res.l ∧ Ext w0 w) := by
 induction k with
 | zero => intro x0 x1 res w0 hS; exact nomatch (show (none : Option (Nd)) = some res from hS)
 | succ k ih => exact @step_One_B_ok (step_One k) @ih
theorem step_All_ok {x0 : Nd} {x1 : List V} {res : (List (Nd))} {w0 : World} (hS : step_All x0 x1 = some res) {Z : FZ} (hZ : Z.inn w0) {xv0 : Value} (rp0 : RdN Z xv0 nodeEnc x0.l) {pb1 : Nat} (hp1 : Z pb1 = some (Cel ((x1 : List V).flatMap vL) 39)) (lp1 : x1.length = 128) (hG : GW w0) : Calls Tryz.prog 38 [(nA x0 xv0), .iface 35 (pt pb1)].toArray w0 (Ret fun v w => RdN (ZB Z w0.heap.size w) v nodeEnc res ∧ Ext w0 w) := by
 refine enS hZ func38 [0, 1] O2 fun Q a Zi eZi H h hr => ?_
 try rw [← eZi] at hr
 clear eZi
 unfold step_All at hS
 refine rg fun K k => z_box h H rfl O17 rfl rfl fun a p1 w X H h => ?_
 have H : HZ w0 _ _ [_] _ := H
 refine cps 1 h rfl fun a h => cz k <| rg fun K k => s1 h rfl (lA H 0 A33 Z33 O17) fun a h => ?_
 refine z_sliceR h H U31 Z33 V33 rfl rfl (zl := [.int .i64 0, .int .i64 0, .int .i64 0, .int .i64 0, S [], .int .i64 0, .int .i64 0, .int .i64 0, .bool false, .bool false, .int .i64 0, .int .i64 0, .int .i64 0, .bool false, .bool false, S [], .slice none 0 0]) kR (plA_get 1 17) [_] O17 rfl rfl rfl rfl fun a v7_2 w X H h => ?_
 have el1 : EL nodeEnc Z ([⟨(nL x0 xv0), rfl⟩] : List (Cl 17)) [x0] := ⟨node_mk ⟨_, rfl, rp0⟩, trivial⟩
 have H : HZ w0 _ _ O2 _ := H
 refine cps 1 h rfl fun a h => cN k h [1, 2, 5] O3 fun h => ?_
 obtain ⟨J4, eJ4, hS⟩ := bv hS
 refine sqJ (fun a w => ∃ (Z : FZ) (s4 : Int × Int × Int × Int × (List UInt8) × Int × Int × Int × Bool × Bool × Int × Int × Int × Bool × Bool × (List UInt8) × (List (Nd)) × (List (Nd))) (v0_16_5 : Value) (sv6 : Value) (cs6 : List (Cl 17)), J4 s4 = some res ∧ Fr 24 [(5, sv6)] a ∧ HZ w0 Zi Z [.blk p1 (Cel [.int .i64 s4.1, .int .i64 s4.2.1, .int .i64 s4.2.2.1, .int .i64 s4.2.2.2.1, S s4.2.2.2.2.1, .int .i64 s4.2.2.2.2.2.1, .int .i64 s4.2.2.2.2.2.2.1, .int .i64 s4.2.2.2.2.2.2.2.1, .bool s4.2.2.2.2.2.2.2.2.1, .bool s4.2.2.2.2.2.2.2.2.2.1, .int .i64 s4.2.2.2.2.2.2.2.2.2.2.1, .int .i64 s4.2.2.2.2.2.2.2.2.2.2.2.1, .int .i64 s4.2.2.2.2.2.2.2.2.2.2.2.2.1, .bool s4.2.2.2.2.2.2.2.2.2.2.2.2.2.1, .bool s4.2.2.2.2.2.2.2.2.2.2.2.2.2.2.1, S s4.2.2.2.2.2.2.2.2.2.2.2.2.2.2.2.1, v0_16_5] 33), .row 33 17 sv6 cs6.length (cs6.flatMap Subtype.val)] w ∧ RdN Z v0_16_5 nodeEnc s4.2.2.2.2.2.2.2.2.2.2.2.2.2.2.2.2.1 ∧ EL nodeEnc Z cs6 s4.2.2.2.2.2.2.2.2.2.2.2.2.2.2.2.2.2 ∧ Z pb1 = some (Cel ((x1 : List V).flatMap vL) 39)) ?_ ?_
 rintro a w ⟨Z, s4, v0_16_5, sv6, cs6, hS, h, H, r0_16_5, el1, hp1⟩
 subst eJ4
 refine rg fun K k => cps 2 h rfl fun a h => cz k ?_
 cases hS
 refine r1 hr h rfl rfl ⟨H.backRowN (i := 1) rfl el1, H.out⟩
 refine rg fun K k => s1 h rfl (lA H 0 A33 Z33 O17) fun a h => ?_
 obtain ⟨y7, f7, hS⟩ := bo hS
 refine st2v (T := Ext) (V := .int .i64 y7) h rfl rfl rfl (dC call39 (tree_Size_ok KK f7 H.zin rp0 (hG.ext H.out))) fun w X a h => ?_
 have H := H.ext X
 refine sI h hS rfl (v_mulw rfl rfl) fun z8 e8 hS a h => ?_
 refine cps 1 h rfl fun a h => cz k <| lb ?_
 obtain ⟨B10, eB10, hS⟩ := bv hS
 refine lpJ (fun mu_ a w => ∃ (Z : FZ) (s10 : Int × Int × Int × Int × Int × (List UInt8) × Int × Int × Int × Bool × Bool × Int × Int × Int × Bool × Bool × (List UInt8) × (List (Nd)) × (List (Nd))) (v0_16_12 : Value) (sv13 : Value) (cs13 : List (Cl 17)), loopF B10 mu_ s10 = some res ∧ Fr 24 [(1, .iface 35 (pt pb1)), (2, (pt p1)), (5, sv13), (10, .int .i64 z8), (11, .int .i64 s10.1)] a ∧ HZ w0 Zi Z [.blk p1 (Cel [.int .i64 s10.2.1, .int .i64 s10.2.2.1, .int .i64 s10.2.2.2.1, .int .i64 s10.2.2.2.2.1, S s10.2.2.2.2.2.1, .int .i64 s10.2.2.2.2.2.2.1, .int .i64 s10.2.2.2.2.2.2.2.1, .int .i64 s10.2.2.2.2.2.2.2.2.1, .bool s10.2.2.2.2.2.2.2.2.2.1, .bool s10.2.2.2.2.2.2.2.2.2.2.1, .int .i64 s10.2.2.2.2.2.2.2.2.2.2.2.1, .int .i64 s10.2.2.2.2.2.2.2.2.2.2.2.2.1, .int .i64 s10.2.2.2.2.2.2.2.2.2.2.2.2.2.1, .bool s10.2.2.2.2.2.2.2.2.2.2.2.2.2.2.1, .bool s10.2.2.2.2.2.2.2.2.2.2.2.2.2.2.2.1, S s10.2.2.2.2.2.2.2.2.2.2.2.2.2.2.2.2.1, v0_16_12] 33), .row 33 17 sv13 cs13.length (cs13.flatMap Subtype.val)] w ∧ RdN Z v0_16_12 nodeEnc s10.2.2.2.2.2.2.2.2.2.2.2.2.2.2.2.2.2.1 ∧ EL nodeEnc Z cs13 s10.2.2.2.2.2.2.2.2.2.2.2.2.2.2.2.2.2.2 ∧ Z pb1 = some (Cel ((x1 : List V).flatMap vL) 39)) KK ⟨_, _, _, _, _, hS, h.to, H, rp0, el1, hp1⟩ ?_
 rintro mu_ a w ⟨Z, s10, v0_16_12, sv13, cs13, hS, h, H, r0_16_12, el1, hp1⟩
 obtain ⟨mu_, rfl, n10, en10, hS⟩ := lpX eB10 hS
 refine rg fun K k => sB h hS rfl (v_lt rfl rfl) fun z14 e14 hS a h => ?_
 refine cz k <| sq <| cI h hS rfl (fun ec16 hS => ?_) fun ec16 hS => ?_
 refine c_skip <| sb ?_
 refine sq <| rg fun K k => s1 h rfl (lA H 0 A33 Z33 O17) fun a h => ?_
 refine sC h H hS rfl (fun y19 f19 => dC call65 (step_done_ok f19 (r0_16_12.hz H.zin) :)) fun y19 hS w X H a h => ?_
 refine cz k <| cI h hS rfl (fun ec20 hS => ?_) fun ec20 hS => ?_
 exact c_exit (ex5 ⟨hS, h.to, H, r0_16_12, el1, hp1⟩)
 refine c_skip <| rg fun K k => s1 h rfl (lA H 0 A33 Z33 O17) fun a h => ?_
 refine cps 1 h rfl fun a h => ?_
 obtain ⟨y21, f21, hS⟩ := bo hS
 refine st2 h rfl rfl rfl (dC call41 (step_One_ok KK f21 H.zin r0_16_12 hp1 lp1 (hG.ext H.out))) ?_
 rintro v_ w ⟨v17_22_1, rfl, r17_22_1, X⟩ a h
 obtain ⟨Z, hsub, hadd, H⟩ := H.adopt' X
 have el1 := el1.sub hsub
 have r0_16_12 := r0_16_12.sub hsub
 have hp1 := hsub _ _ hp1
 have r17_22_1 := r17_22_1.sub hadd
 refine z_store h H 0 rfl rfl rfl Z33 O17 rfl rfl (by obtain ⟨_, _, _, e_⟩ := (r17_22_1).form; subst e_; rfl) (by simp) O17 rfl (hl' := O2) rfl fun w H => ?_
 refine cN k h [1, 2, 5, 10, 11] O5 fun h => ?_
 refine c_lregion <| cps 1 h rfl fun a h => s1 h rfl (lA H 0 A33 Z33 O17) fun a h => ?_
 refine z_slice (enc := (Subtype.val (p := fun l : List Value => l.length = 17))) ([⟨(nL y21 v17_22_1), rfl⟩] : List (Cl 17)) h H U31 Z33 V33 rfl (zl := [.int .i64 0, .int .i64 0, .int .i64 0, .int .i64 0, S [], .int .i64 0, .int .i64 0, .int .i64 0, .bool false, .bool false, .int .i64 0, .int .i64 0, .int .i64 0, .bool false, .bool false, S [], .slice none 0 0]) kR (plA_get 1 17) [_] O17 rfl rfl rfl rfl rfl fun a v20_23 Z w hsub X H r20_23 h => ?_
 have el1 := el1.sub hsub
 have r17_22_1 := r17_22_1.sub hsub
 have hp1 := hsub _ _ hp1
 have r20_23 : RdN Z v20_23 nodeEnc [y21] := ⟨_, r20_23, ⟨node_mk ⟨_, rfl, r17_22_1⟩, trivial⟩⟩
 obtain ⟨c25, hS⟩ := ck hS
 obtain ⟨z26, e26, hS⟩ := bv hS
 obtain ⟨cy_24, ry_24, ey_24⟩ := id r20_23
 refine z_appendS (enc := (Subtype.val (p := fun l : List Value => l.length = 17))) (out := cs13) (data := cy_24) h H 1 rfl U31 app33 rfl rfl rfl ry_24 (fun c => c.2) ey_24.one (bnd el1.len ey_24.len c25) rfl fun a v21_24 w H h => ?_
 have el1 := EL.append el1 ey_24
 rw [← e26] at el1
 have el1 : EL nodeEnc Z (List.append (α := Cl 17) cs13 cy_24) z26 := el1
 have H : HZ w0 _ _ O2 _ := H
 refine cps 1 h rfl fun a h => c_lnil <| cO h [1, 2, 5, 10, 11] O5 fun h => ?_
 refine c_lregion <| sI h hS rfl (v_addw rfl rfl) fun z27 e27 hS a h => ?_
 refine cps 1 h rfl fun a h => c_lnil ?_
 exact exL (ex5 ⟨lpN en10 hS, h.to, H, r17_22_1, el1, hp1⟩)
 exact c_exit (ex5 ⟨hS, h.to, H, r0_16_12, el1, hp1⟩)
end Go.Proofs.YtcecjdnkcbfhlaaGreatDoor
