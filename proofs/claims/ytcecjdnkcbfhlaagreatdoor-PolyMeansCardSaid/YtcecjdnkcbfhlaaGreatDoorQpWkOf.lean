/- Joined texts. -/
import Derived.Test.YtcecjdnkcbfhlaaGreatDoorQM0
import Derived.Test.YtcecjdnkcbfhlaaGreatDoorQU0
import Derived.Test.YtcecjdnkcbfhlaaGreatDoorQpWkCl
import Derived.Test.YtcecjdnkcbfhlaaGreatDoorQpWkPD
set_option linter.unusedSimpArgs false
set_option linter.unusedVariables false
set_option linter.unusedSectionVars false
namespace Go.Proofs.YtcecjdnkcbfhlaaGreatDoor
open Go.Stp Go.RowKit Go.ValP Go.Sp _root_.Go.Proofs.Tryz
set_option maxRecDepth 100000
set_option maxHeartbeats 2000000
theorem poly_binary_ok {rec : Nd → (List V) → Option ((List (T)) × Bool)} (hrec : ∀ {x0 : Nd} {x1 : List V} {res : (List (T)) × Bool} {w0 : World} (hS : rec x0 x1 = some res) {Z : FZ} (hZ : Z.inn w0) {xv0 : Value} (rp0 : RdN Z xv0 nodeEnc x0.l) {pb1 : Nat} (hp1 : Z pb1 = some (Cel ((x1 : List V).flatMap vL) 39)) (lp1 : x1.length = 128) (hG : GW w0), Calls Tryz.prog 15 [.agg #[.int .i64 x0.k, .int .i64 x0.op, .int .i64 x0.v.k, .int .i64 x0.v.n, S x0.v.s, .int .i64 x0.a.c.s, .int .i64 x0.a.c.c, .int .i64 x0.a.c.r, .bool x0.a.ac, .bool x0.a.ar, .int .i64 x0.b.c.s, .int .i64 x0.b.c.c, .int .i64 x0.b.c.r, .bool x0.b.ac, .bool x0.b.ar, S x0.nm, xv0], .iface 35 (.pointer (some ⟨pb1, 0, none⟩))].toArray w0 (Ret fun v w => ∃ u1, v = .tuple #[u1, .bool res.2] ∧ RdN (ZB Z w0.heap.size w) u1 termEnc res.1 ∧ Ext w0 w)) {x0 : Nd} {x1 : List V} {res : (List (T)) × Bool} {w0 : World} (hS : poly_binary rec x0 x1 = some res) {Z : FZ} (hZ : Z.inn w0) {xv0 : Value} (rp0 : RdN Z xv0 nodeEnc x0.l) {pb1 : Nat} (hp1 : Z pb1 = some (Cel ((x1 : List V).flatMap vL) 39)) (lp1 : x1.length = 128) (hG : GW w0) : Calls Tryz.prog 53 [.agg #[.int .i64 x0.k, .int .i64 x0.op, .int .i64 x0.v.k, .int .i64 x0.v.n, S x0.v.s, .int .i64 x0.a.c.s, .int .i64 x0.a.c.c, .int .i64 x0.a.c.r, .bool x0.a.ac, .bool x0.a.ar, .int .i64 x0.b.c.s, .int .i64 x0.b.c.c, .int .i64 x0.b.c.r, .bool x0.b.ac, .bool x0.b.ar, S x0.nm, xv0], .iface 35 (.pointer (some ⟨pb1, 0, none⟩))].toArray w0 (Ret fun v w => ∃ u1, v = .tuple #[u1, .bool res.2] ∧ RdN (ZB Z w0.heap.size w) u1 termEnc res.1 ∧ Ext w0 w) := by
 refine enS hZ func53 [0, 1] [_, _] fun Q a Zi eZi H h hr => ?_
 try rw [← eZi] at hr
 clear eZi
 unfold poly_binary at hS
 refine rg fun K k => ?_
 refine z_box h H rfl [_, _, _, _, _, _, _, _, _, _, _, _, _, _, _, _, _] rfl rfl fun a p1 w X H h => ?_
 have H : HZ w0 _ _ [_] _ := H
 refine cps 2 h rfl fun a h => ?_
 refine cz k ?_
 refine rg fun K k => ?_
 refine s1 h rfl (v_fieldAddr rfl underlying33 rfl sizeOf31 rfl rfl) fun a h => ?_
 refine s1 h rfl (l1 H 0 isAgg31) fun a h => ?_
 obtain ⟨c2, hS⟩ := ck hS
 obtain ⟨z3, e3, hS⟩ := bv hS
 have q_4 := rp0.gel ⟨_, nodeEnc_dflt⟩ 0
 rw [← e3] at q_4
 obtain ⟨css_4, cl_4, rc_4, hc_4, q_4⟩ := q_4
 obtain ⟨v13_4_1, hcs_4, r13_4_1⟩ := node_op q_4
 refine st_idxC h underlying31 sizeOf33 rfl rfl (rc_4.at H.zin) c2.1 (hc_4 c2) hcs_4 rfl fun a v13 A13 h => ?_
 refine s1 h rfl (v_loadAtA [_, _, _, _, _, _, _, _, _, _, _, _, _, _, _, _, _] rfl A13 isAgg33 sizeOf33 rfl rfl) fun a h => ?_
 refine cps 1 h rfl fun a h => ?_
 obtain ⟨y5, f5, hS⟩ := bo hS
 refine st2 h rfl rfl rfl (dC call15 (hrec f5 H.zin r13_4_1 hp1 lp1 (hG.ext H.out))) ?_
 rintro v_ w ⟨v16_6_1, rfl, r16_6_1, X⟩ a h
 obtain ⟨Z, hsub, hadd, H⟩ := H.adopt' X
 have r13_4_1 := r13_4_1.sub hsub
 have rp0 := rp0.sub hsub
 have hp1 := hsub _ _ hp1
 have r16_6_1 := r16_6_1.sub hadd
 have A13 := At.ext A13 X
 refine cps 5 h rfl fun a h => ?_
 refine cN k h [1, 2, 6, 7] [_, _, _, _] fun h => ?_
 refine rg fun K k => ?_
 refine s1 h rfl (v_fieldAddr rfl underlying33 rfl sizeOf31 rfl rfl) fun a h => ?_
 refine s1 h rfl (l1 H 0 isAgg31) fun a h => ?_
 obtain ⟨c7, hS⟩ := ck hS
 obtain ⟨z8, e8, hS⟩ := bv hS
 have q_9 := rp0.gel ⟨_, nodeEnc_dflt⟩ 1
 rw [← e8] at q_9
 obtain ⟨css_9, cl_9, rc_9, hc_9, q_9⟩ := q_9
 obtain ⟨v22_9_1, hcs_9, r22_9_1⟩ := node_op q_9
 refine st_idxC h underlying31 sizeOf33 rfl rfl (rc_9.at H.zin) c7.1 (hc_9 c7) hcs_9 rfl fun a v22 A22 h => ?_
 refine s1 h rfl (v_loadAtA [_, _, _, _, _, _, _, _, _, _, _, _, _, _, _, _, _] rfl A22 isAgg33 sizeOf33 rfl rfl) fun a h => ?_
 refine cps 1 h rfl fun a h => ?_
 obtain ⟨y10, f10, hS⟩ := bo hS
 refine st2 h rfl rfl rfl (dC call15 (hrec f10 H.zin r22_9_1 hp1 lp1 (hG.ext H.out))) ?_
 rintro v_ w ⟨v25_11_1, rfl, r25_11_1, X⟩ a h
 obtain ⟨Z, hsub, hadd, H⟩ := H.adopt' X
 have r16_6_1 := r16_6_1.sub hsub
 have r22_9_1 := r22_9_1.sub hsub
 have rp0 := rp0.sub hsub
 have hp1 := hsub _ _ hp1
 have r25_11_1 := r25_11_1.sub hadd
 have A22 := At.ext A22 X
 refine cps 5 h rfl fun a h => ?_
 refine cN k h [2, 6, 7, 8, 9] [_, _, _, _, _] fun h => ?_
 refine sb ?_
 refine rg fun K k => ?_
 refine cps 1 h rfl fun a h => ?_
 refine sB h hS rfl (v_not rfl) fun z13 e13 hS a h => ?_
 refine cps 1 h rfl fun a h => ?_
 refine st_g h rfl rfl (gF rfl) rfl rfl (fun e0 => v_move rfl) fun a h => ?_
 obtain ⟨z14, e14, hS⟩ := bv hS
 refine st_g h rfl rfl (gF rfl) rfl rfl (fun e0 => vB e14 (v_not (eg e0 rfl))) fun a h => ?_
 refine sB h hS rfl (v_or rfl rfl) fun z15 e15 hS a h => ?_
 refine cps 1 h rfl fun a h => ?_
 refine cN k h [2, 6, 8, 28] [_, _, _, _] fun h => ?_
 refine cI h hS rfl (fun ec16 hS => ?_) fun ec16 hS => ?_
 refine rg fun K k => ?_
 refine cps 2 h rfl fun a h => ?_
 refine cN k h [4, 5] [_, _] fun h => ?_
 cases hS
 refine r2 hr h rfl rfl rfl ⟨_, rfl, RdN.nil, H.out⟩
 refine rg fun K k => ?_
 refine s1 h rfl (v_fieldAddr rfl underlying33 rfl sizeOf3 rfl rfl) fun a h => ?_
 refine s1 h rfl (l1 H 0 isAgg3) fun a h => ?_
 refine sB h hS rfl (v_eq rfl rfl) fun z17 e17 hS a h => ?_
 refine cps 1 h rfl fun a h => ?_
 refine cN k h [2, 6, 8, 35] [_, _, _, _] fun h => ?_
 refine cI h hS rfl (fun ec18 hS => ?_) fun ec18 hS => ?_
 refine rg fun K k => ?_
 refine cps 2 h rfl fun a h => ?_
 refine z_slice (enc := (Subtype.val (p := fun l : List Value => l.length = 1))) ([⟨[v16_6_1], rfl⟩, ⟨[v25_11_1], rfl⟩] : List (Cl 1)) h H underlying129 sizeOf42 zeroValue42 rfl (zl := [.slice none 0 0, .slice none 0 0]) (by kernel_rfl) (plA_get 2 1) [_, _] [_, _] rfl (by obtain ⟨_, _, _, e_⟩ := (r16_6_1).form; subst e_; obtain ⟨_, _, _, e_⟩ := (r25_11_1).form; subst e_; rfl) rfl rfl rfl fun a v41_19 Z w hsub X H r41_19 h => ?_
 have r16_6_1 := r16_6_1.sub hsub
 have r25_11_1 := r25_11_1.sub hsub
 have rp0 := rp0.sub hsub
 have hp1 := hsub _ _ hp1
 have r41_19 : RdN Z v41_19 polyEnc [y5.1, y10.1] := ⟨_, r41_19, ⟨⟨_, rfl, r16_6_1⟩, ⟨_, rfl, r25_11_1⟩, trivial⟩⟩
 obtain ⟨y20, f20, hS⟩ := bo hS
 refine st2 h rfl rfl rfl (dC call44 (poly_Add_ok (x0 := [y5.1, y10.1]) f20 H.zin r41_19)) ?_
 rintro v_ w ⟨v42_21_1, rfl, r42_21_1, X⟩ a h
 obtain ⟨Z, hsub, hadd, H⟩ := H.adopt' X
 have r16_6_1 := r16_6_1.sub hsub
 have r25_11_1 := r25_11_1.sub hsub
 have r41_19 := r41_19.sub hsub
 have rp0 := rp0.sub hsub
 have hp1 := hsub _ _ hp1
 have r42_21_1 := r42_21_1.sub hadd
 refine cps 4 h rfl fun a h => ?_
 refine cN k h [4, 5] [_, _] fun h => ?_
 cases hS
 refine r2 hr h rfl rfl rfl ⟨_, rfl, r42_21_1.sub H.back, H.out⟩
 refine rg fun K k => ?_
 refine s1 h rfl (v_fieldAddr rfl underlying33 rfl sizeOf3 rfl rfl) fun a h => ?_
 refine s1 h rfl (l1 H 0 isAgg3) fun a h => ?_
 refine sB h hS rfl (v_eq rfl rfl) fun z22 e22 hS a h => ?_
 refine cps 1 h rfl fun a h => ?_
 refine cN k h [6, 8, 45] [_, _, _] fun h => ?_
 refine cI h hS rfl (fun ec23 hS => ?_) fun ec23 hS => ?_
 refine rg fun K k => ?_
 refine cps 2 h rfl fun a h => ?_
 obtain ⟨y24, f24, hS⟩ := bo hS
 refine st2 h rfl rfl rfl (dC call78 (poly_Mul_ok (x0 := y5.1) (x1 := y10.1) f24 H.zin r16_6_1 r25_11_1)) ?_
 rintro v_ w ⟨v51_25_1, rfl, r51_25_1, X⟩ a h
 obtain ⟨Z, hsub, hadd, H⟩ := H.adopt' X
 have r16_6_1 := r16_6_1.sub hsub
 have r25_11_1 := r25_11_1.sub hsub
 have rp0 := rp0.sub hsub
 have hp1 := hsub _ _ hp1
 have r51_25_1 := r51_25_1.sub hadd
 refine cps 4 h rfl fun a h => ?_
 refine cN k h [4, 5] [_, _] fun h => ?_
 cases hS
 refine r2 hr h rfl rfl rfl ⟨_, rfl, r51_25_1.sub H.back, H.out⟩
 refine c_skip ?_
 refine rg fun K k => ?_
 refine cps 2 h rfl fun a h => ?_
 refine cz k ?_
 cases hS
 refine r2 hr h rfl rfl rfl ⟨_, rfl, RdN.nil, H.out⟩
theorem poly_call_ok {rec : Nd → (List V) → Option ((List (T)) × Bool)} (hrec : ∀ {x0 : Nd} {x1 : List V} {res : (List (T)) × Bool} {w0 : World} (hS : rec x0 x1 = some res) {Z : FZ} (hZ : Z.inn w0) {xv0 : Value} (rp0 : RdN Z xv0 nodeEnc x0.l) {pb1 : Nat} (hp1 : Z pb1 = some (Cel ((x1 : List V).flatMap vL) 39)) (lp1 : x1.length = 128) (hG : GW w0), Calls Tryz.prog 15 [.agg #[.int .i64 x0.k, .int .i64 x0.op, .int .i64 x0.v.k, .int .i64 x0.v.n, S x0.v.s, .int .i64 x0.a.c.s, .int .i64 x0.a.c.c, .int .i64 x0.a.c.r, .bool x0.a.ac, .bool x0.a.ar, .int .i64 x0.b.c.s, .int .i64 x0.b.c.c, .int .i64 x0.b.c.r, .bool x0.b.ac, .bool x0.b.ar, S x0.nm, xv0], .iface 35 (.pointer (some ⟨pb1, 0, none⟩))].toArray w0 (Ret fun v w => ∃ u1, v = .tuple #[u1, .bool res.2] ∧ RdN (ZB Z w0.heap.size w) u1 termEnc res.1 ∧ Ext w0 w)) {x0 : Nd} {x1 : List V} {res : (List (T)) × Bool} {w0 : World} (hS : poly_call rec x0 x1 = some res) {Z : FZ} (hZ : Z.inn w0) {xv0 : Value} (rp0 : RdN Z xv0 nodeEnc x0.l) {pb1 : Nat} (hp1 : Z pb1 = some (Cel ((x1 : List V).flatMap vL) 39)) (lp1 : x1.length = 128) (hG : GW w0) : Calls Tryz.prog 54 [.agg #[.int .i64 x0.k, .int .i64 x0.op, .int .i64 x0.v.k, .int .i64 x0.v.n, S x0.v.s, .int .i64 x0.a.c.s, .int .i64 x0.a.c.c, .int .i64 x0.a.c.r, .bool x0.a.ac, .bool x0.a.ar, .int .i64 x0.b.c.s, .int .i64 x0.b.c.c, .int .i64 x0.b.c.r, .bool x0.b.ac, .bool x0.b.ar, S x0.nm, xv0], .iface 35 (.pointer (some ⟨pb1, 0, none⟩))].toArray w0 (Ret fun v w => ∃ u1, v = .tuple #[u1, .bool res.2] ∧ RdN (ZB Z w0.heap.size w) u1 termEnc res.1 ∧ Ext w0 w) := by
 refine enSM hZ func54 [0, 1] [_, _] fun Q a Zi eZi H h hr => ?_
 try rw [← eZi] at hr
 clear eZi
 have dz : DZ w0 Zi Z [] := DZ.nil
 have h : Fr ⟨163, marks []⟩ _ a := h
 unfold poly_call at hS
 refine rg fun K k => ?_
 refine z_box h H rfl [_, _, _, _, _, _, _, _, _, _, _, _, _, _, _, _, _] rfl rfl fun a p1 w X H h => ?_
 have H : HZ w0 _ _ [_] _ := H
 refine zA h H zeroValue42 [_] (fun x => [_, x]) fun a p2 w X H h => ?_
 refine zA h H zeroValue4 [_] (fun x => [_, _, x]) fun a p3 w X H h => ?_
 refine cz k ?_
 refine rg fun K k => ?_
 refine zA h H zeroValue129 [_] (fun x => [_, _, _, x]) fun a p4 w X H h => ?_
 refine cz k ?_
 have H := H.nilRow 42 1 rfl
 have H : HZ w0 _ _ [_, _, _, _, _] _ := H
 have el4 : EL polyEnc Z ([] : List (Cl 1)) ([] : List (List (T))) := trivial
 obtain ⟨J6, eJ6, hS⟩ := bv hS
 refine sqJ (fun a w => ∃ (Z : FZ) (s6 : (List (T)) × Bool × (List (List (T)))) (v1_0_7 : Value) (sv8 : Value) (cs8 : List (Cl 1)) (Ds9 : List Nat), J6 s6 = some res ∧ Fr ⟨163, marks Ds9⟩ [(4, .pointer (some ⟨p2, 0, none⟩)), (5, .pointer (some ⟨p3, 0, none⟩)), (6, .pointer (some ⟨p4, 0, none⟩))] a ∧ HZ w0 Zi Z [.blk p1 (Cel [.int .i64 x0.k, .int .i64 x0.op, .int .i64 x0.v.k, .int .i64 x0.v.n, S x0.v.s, .int .i64 x0.a.c.s, .int .i64 x0.a.c.c, .int .i64 x0.a.c.r, .bool x0.a.ac, .bool x0.a.ar, .int .i64 x0.b.c.s, .int .i64 x0.b.c.c, .int .i64 x0.b.c.r, .bool x0.b.ac, .bool x0.b.ar, S x0.nm, xv0] 33), .blk p2 (Cel [v1_0_7] 42), .blk p3 (Cel [.bool s6.2.1] 4), .blk p4 (Cel [sv8] 129), .row 42 1 sv8 cs8.length (cs8.flatMap Subtype.val)] w ∧ RdN Z v1_0_7 termEnc s6.1 ∧ EL polyEnc Z cs8 s6.2.2 ∧ RdN Z xv0 nodeEnc x0.l ∧ Z pb1 = some (Cel ((x1 : List V).flatMap vL) 39) ∧ DZ w0 Zi Z Ds9) ?_ ?_
 rintro a w ⟨Z, s6, v1_0_7, sv8, cs8, Ds9, hS, h, H, r1_0_7, el4, rp0, hp1, dz⟩
 subst eJ6
 refine rg fun K k => ?_
 refine s1 h rfl (l1 H 3 isAgg129) fun a h => ?_
 obtain ⟨Z, hsub, H, rz4_10⟩ := H.freezeRowN (E := polyEnc) 4 rfl el4
 have dz := dz.sub hsub
 have r1_0_7 := r1_0_7.sub hsub
 have rp0 := rp0.sub hsub
 have hp1 := hsub _ _ hp1
 have H : HZ w0 _ _ [_, _, _, _, _] _ := H
 obtain ⟨y11, f11, hS⟩ := bo hS
 refine st2 h rfl rfl rfl (dC call44 (poly_Add_ok (x0 := s6.2.2) f11 H.zin rz4_10)) ?_
 rintro v_ w ⟨v160_12_1, rfl, r160_12_1, X⟩ a h
 obtain ⟨Z, hsub, hadd, H⟩ := H.adopt' X
 have dz := dz.sub hsub
 have r1_0_7 := r1_0_7.sub hsub
 have rp0 := rp0.sub hsub
 have rz4_10 := rz4_10.sub hsub
 have hp1 := hsub _ _ hp1
 have r160_12_1 := r160_12_1.sub hadd
 refine cps 2 h rfl fun a h => ?_
 refine z_store h H 1 rfl rfl rfl sizeOf42 [v160_12_1] (by rw [r160_12_1.cells]) rfl (by obtain ⟨_, _, _, e_⟩ := (r160_12_1).form; subst e_; rfl) (by simp) [_] rfl (hl' := [_, _, _, _, _]) rfl fun w H => ?_
 refine zS h H 2 sizeOf4 [_] [_] [_, _, _, _, _] fun w H => ?_
 refine cN k h [4, 5] [_, _] fun h => ?_
 cases hS
 refine c_ret (hr _ _ (outM h H dz fun a w less H h => ?_))
 have r160_12_1 := r160_12_1.subC less
 have rp0 := rp0.subC less
 have rz4_10 := rz4_10.subC less
 refine out2 h rfl (rv1 H 1 isAgg42) (rv1 H 2 isAgg4) ⟨_, rfl, r160_12_1.sub H.back, H.out⟩
 refine rg fun K k => ?_
 refine s1 h rfl (v_fieldAddr rfl underlying33 rfl sizeOf3 rfl rfl) fun a h => ?_
 refine s1 h rfl (l1 H 0 isAgg3) fun a h => ?_
 refine sC h H hS rfl (fun y13 f13 => dC call79 (tree_Name_ok f13 (hG.ext H.out) :)) fun y13 hS w X H a h => ?_
 refine cz k ?_
 refine lb ?_
 refine rg fun K k => ?_
 refine sB h hS rfl (v_seq rfl rfl) fun z15 e15 hS a h => ?_
 refine cps 1 h rfl fun a h => ?_
 refine cN k h [1, 2, 4, 5, 6, 27, 28] [_, _, _, _, _, _, _] fun h => ?_
 refine cI h hS rfl (fun ec16 hS => ?_) fun ec16 hS => ?_
 refine rg fun K k => ?_
 refine s1 h rfl (v_fieldAddr rfl underlying33 rfl sizeOf31 rfl rfl) fun a h => ?_
 refine s1 h rfl (l1 H 0 isAgg31) fun a h => ?_
 refine s1 h rfl (v_lenN underlying31 rfl rp0 H.zin) fun a h => ?_
 refine cps 1 h rfl fun a h => ?_
 refine cN k h [1, 4, 5, 6, 31, 32, 33] [_, _, _, _, _, _, _] fun h => ?_
 refine lb ?_
 obtain ⟨B18, eB18, hS⟩ := bv hS
 refine lpJ (fun mu_ a w => ∃ (Z : FZ) (s18 : Int × (List (T)) × Bool × (List (List (T)))) (v1_0_20 : Value) (sv21 : Value) (cs21 : List (Cl 1)) (Ds22 : List Nat), loopF B18 mu_ s18 = some res ∧ Fr ⟨163, marks Ds22⟩ [(1, .iface 35 (.pointer (some ⟨pb1, 0, none⟩))), (4, .pointer (some ⟨p2, 0, none⟩)), (5, .pointer (some ⟨p3, 0, none⟩)), (6, .pointer (some ⟨p4, 0, none⟩)), (31, xv0), (32, .int .i64 (x0.l.length : Int)), (33, .int .i64 s18.1)] a ∧ HZ w0 Zi Z [.blk p1 (Cel [.int .i64 x0.k, .int .i64 x0.op, .int .i64 x0.v.k, .int .i64 x0.v.n, S x0.v.s, .int .i64 x0.a.c.s, .int .i64 x0.a.c.c, .int .i64 x0.a.c.r, .bool x0.a.ac, .bool x0.a.ar, .int .i64 x0.b.c.s, .int .i64 x0.b.c.c, .int .i64 x0.b.c.r, .bool x0.b.ac, .bool x0.b.ar, S x0.nm, xv0] 33), .blk p2 (Cel [v1_0_20] 42), .blk p3 (Cel [.bool s18.2.2.1] 4), .blk p4 (Cel [sv21] 129), .row 42 1 sv21 cs21.length (cs21.flatMap Subtype.val)] w ∧ RdN Z v1_0_20 termEnc s18.2.1 ∧ EL polyEnc Z cs21 s18.2.2.2 ∧ RdN Z xv0 nodeEnc x0.l ∧ Z pb1 = some (Cel ((x1 : List V).flatMap vL) 39) ∧ DZ w0 Zi Z Ds22) KK ⟨_, _, _, _, _, _, hS, h.to, H, RdN.nil, el4, rp0, hp1, dz⟩ ?_
 rintro mu_ a w ⟨Z, s18, v1_0_20, sv21, cs21, Ds22, hS, h, H, r1_0_20, el4, rp0, hp1, dz⟩
 obtain ⟨mu_, rfl, n18, en18, hS⟩ := lpX eB18 hS
 refine rg fun K k => ?_
 refine sB h hS rfl (v_lt rfl rfl) fun z23 e23 hS a h => ?_
 refine cz k ?_
 refine sq ?_
 refine cI h hS rfl (fun ec25 hS => ?_) fun ec25 hS => ?_
 refine c_skip ?_
 refine sb ?_
 refine rg fun K k => ?_
 obtain ⟨c27, hS⟩ := ck hS
 obtain ⟨z28, e28, hS⟩ := bv hS
 have q_29 := rp0.gel ⟨_, nodeEnc_dflt⟩ s18.1
 rw [← e28] at q_29
 obtain ⟨css_29, cl_29, rc_29, hc_29, q_29⟩ := q_29
 obtain ⟨v35_29_1, hcs_29, r35_29_1⟩ := node_op q_29
 refine st_idxC h underlying31 sizeOf33 rfl rfl (rc_29.at H.zin) c27.1 (hc_29 c27) hcs_29 rfl fun a v35 A35 h => ?_
 refine s1 h rfl (v_loadAtA [_, _, _, _, _, _, _, _, _, _, _, _, _, _, _, _, _] rfl A35 isAgg33 sizeOf33 rfl rfl) fun a h => ?_
 refine zA h H zeroValue33 [_, _, _, _, _, _, _, _, _, _, _, _, _, _, _, _, _] (fun x => [_, _, _, _, _, x]) fun a p30 w X H h => ?_
 have A35 := At.ext A35 X
 refine z_store h H 5 rfl rfl rfl sizeOf33 [_, _, _, _, _, _, _, _, _, _, _, _, _, _, _, _, _] rfl rfl (by obtain ⟨_, _, _, e_⟩ := (r35_29_1).form; subst e_; rfl) (by simp) [_, _, _, _, _, _, _, _, _, _, _, _, _, _, _, _, _] rfl (hl' := [_, _, _, _, _, _]) rfl fun w H => ?_
 refine cz k ?_
 refine rg fun K k => ?_
 refine cps 1 h rfl fun a h => ?_
 refine s1 h rfl (lA H 5 isAgg33 sizeOf33 [_, _, _, _, _, _, _, _, _, _, _, _, _, _, _, _, _]) fun a h => ?_
 obtain ⟨y31, f31, hS⟩ := bo hS
 refine st2v (T := Ext) (V := .tuple #[.agg #[.int .i64 y31.1.s, .int .i64 y31.1.c, .int .i64 y31.1.r], .agg #[.int .i64 y31.2.1.s, .int .i64 y31.2.1.c, .int .i64 y31.2.1.r], .bool y31.2.2]) h rfl rfl rfl (dC call52 (eval_Area_ok f31 H.zin r35_29_1 hp1 lp1)) fun w X a h => ?_
 have H := H.ext X
 refine cps 4 h rfl fun a h => ?_
 refine zA h H zeroValue28 [_, _, _] (fun x => [_, _, _, _, _, _, x]) fun a p32 w X H h => ?_
 refine zA h H zeroValue28 [_, _, _] (fun x => [_, _, _, _, _, _, _, x]) fun a p33 w X H h => ?_
 refine zS h H 6 sizeOf28 [_, _, _] [_, _, _] [_, _, _, _, _, _, _, _] fun w H => ?_
 refine zS h H 7 sizeOf28 [_, _, _] [_, _, _] [_, _, _, _, _, _, _, _] fun w H => ?_
 refine cps 1 h rfl fun a h => ?_
 refine cN k h [1, 4, 5, 6, 8, 9, 10, 11, 31, 32, 33] [_, _, _, _, _, _, _, _, _, _, _] fun h => ?_
 refine sq ?_
 refine rg fun K k => ?_
 refine cps 1 h rfl fun a h => ?_
 refine sB h hS rfl (v_not rfl) fun z35 e35 hS a h => ?_
 refine cz k ?_
 refine cI h hS rfl (fun ec36 hS => ?_) fun ec36 hS => ?_
 refine rg fun K k => ?_
 refine s1 h rfl (lA H 5 isAgg33 sizeOf33 [_, _, _, _, _, _, _, _, _, _, _, _, _, _, _, _, _]) fun a h => ?_
 refine cps 1 h rfl fun a h => ?_
 obtain ⟨y37, f37, hS⟩ := bo hS
 refine st2 h rfl rfl rfl (dC call15 (hrec f37 H.zin r35_29_1 hp1 lp1 (hG.ext H.out))) ?_
 rintro v_ w ⟨v49_38_1, rfl, r49_38_1, X⟩ a h
 obtain ⟨Z, hsub, hadd, H⟩ := H.adopt' X
 have dz := dz.sub hsub
 have el4 := el4.sub hsub
 have r1_0_20 := r1_0_20.sub hsub
 have r35_29_1 := r35_29_1.sub hsub
 have rp0 := rp0.sub hsub
 have hp1 := hsub _ _ hp1
 have r49_38_1 := r49_38_1.sub hadd
 refine cps 5 h rfl fun a h => ?_
 refine cN k h [1, 4, 5, 6, 12, 13, 31, 32, 33] [_, _, _, _, _, _, _, _, _] fun h => ?_
 refine sq ?_
 refine rg fun K k => ?_
 refine cps 1 h rfl fun a h => ?_
 refine sB h hS rfl (v_not rfl) fun z40 e40 hS a h => ?_
 refine cz k ?_
 refine cI h hS rfl (fun ec41 hS => ?_) fun ec41 hS => ?_
 refine rg fun K k => ?_
 refine zS h H 1 sizeOf42 [_] [_] [_, _, _, _, _, _, _, _] fun w H => ?_
 refine zS h H 2 sizeOf4 [_] [_] [_, _, _, _, _, _, _, _] fun w H => ?_
 refine cN k h [4, 5] [_, _] fun h => ?_
 cases hS
 refine c_ret (hr _ _ (outM h H dz fun a w less H h => ?_))
 have el4 := el4.subC less
 have r35_29_1 := r35_29_1.subC less
 have rp0 := rp0.subC less
 refine out2 h rfl (rv1 H 1 isAgg42) (rv1 H 2 isAgg4) ⟨_, rfl, RdN.nil, H.out⟩
 refine c_skip ?_
 refine rg fun K k => ?_
 refine s1 h rfl (l1 H 3 isAgg129) fun a h => ?_
 refine cps 1 h rfl fun a h => ?_
 refine z_slice (enc := (Subtype.val (p := fun l : List Value => l.length = 1))) ([⟨[v49_38_1], rfl⟩] : List (Cl 1)) h H underlying129 sizeOf42 zeroValue42 rfl (zl := [.slice none 0 0]) (by kernel_rfl) (plA_get 1 1) [_] [_] rfl (by obtain ⟨_, _, _, e_⟩ := (r49_38_1).form; subst e_; rfl) rfl rfl rfl fun a v56_42 Z w hsub X H r56_42 h => ?_
 have dz := dz.sub hsub
 have el4 := el4.sub hsub
 have r1_0_20 := r1_0_20.sub hsub
 have r35_29_1 := r35_29_1.sub hsub
 have r49_38_1 := r49_38_1.sub hsub
 have rp0 := rp0.sub hsub
 have hp1 := hsub _ _ hp1
 have r56_42 : RdN Z v56_42 polyEnc [y37.1] := ⟨_, r56_42, ⟨⟨_, rfl, r49_38_1⟩, trivial⟩⟩
 obtain ⟨c44, hS⟩ := ck hS
 obtain ⟨z45, e45, hS⟩ := bv hS
 obtain ⟨cy_43, ry_43, ey_43⟩ := id r56_42
 refine z_appendS (enc := (Subtype.val (p := fun l : List Value => l.length = 1))) (out := cs21) (data := cy_43) h H 4 rfl underlying129 app42 rfl rfl rfl ry_43 (fun c => c.2) ey_43.one (bnd el4.len ey_43.len c44) rfl fun a v57_43 w H h => ?_
 have el4 := EL.append el4 ey_43
 rw [← e45] at el4
 have el4 : EL polyEnc Z (List.append (α := Cl 1) cs21 cy_43) z45 := el4
 have H : HZ w0 _ _ [_, _, _, _, _, _, _, _] _ := H
 refine z_store h H 3 rfl rfl rfl sizeOf129 [v57_43] (by rw [(H.rowN (i := 4) rfl el4).cells]) rfl (by obtain ⟨_, _, _, e_⟩ := (H.rowN (i := 4) rfl el4).form; subst e_; rfl) (by simp) [_] rfl (hl' := [_, _, _, _, _, _, _, _]) rfl fun w H => ?_
 refine cN k h [1, 4, 5, 6, 31, 32, 33] [_, _, _, _, _, _, _] fun h => ?_
 refine c_exit ?_
 refine c_lregion ?_
 refine sI h hS rfl (v_addw rfl rfl) fun z46 e46 hS a h => ?_
 refine cps 1 h rfl fun a h => ?_
 refine c_lnil ?_
 exact exL (ex6 ⟨lpN en18 hS, h.to, (H.keepN 5 rfl), r1_0_20, el4, rp0, hp1, dz⟩)
 refine c_skip ?_
 refine cO h [1, 4, 5, 6, 9, 10, 31, 32, 33] [_, _, _, _, _, _, _, _, _] fun h => ?_
 refine rg fun K k => ?_
 refine s1 h rfl (lA H 6 isAgg28 sizeOf28 [_, _, _]) fun a h => ?_
 refine s1 h rfl (lA H 7 isAgg28 sizeOf28 [_, _, _]) fun a h => ?_
 obtain ⟨y47, f47, hS⟩ := bo hS
 refine st2 h rfl rfl rfl (dC call80 (addr_Cells_ok f47)) ?_
 rintro v_ w ⟨cp_47, rfl, it60_47, X⟩ a h
 obtain ⟨Z, hsub, hadd, H⟩ := H.adopt' X
 have dz := dz.sub hsub
 have el4 := el4.sub hsub
 have r1_0_20 := r1_0_20.sub hsub
 have r35_29_1 := r35_29_1.sub hsub
 have rp0 := rp0.sub hsub
 have hp1 := hsub _ _ hp1
 have it60_47 := it60_47.sub (ZB.empty.trans hadd)
 refine cN k h [1, 4, 5, 6, 31, 32, 33, 60] [_, _, _, _, _, _, _, _] fun h => ?_
 refine lb ?_
 refine cO h [1, 4, 5, 6, 31, 32, 33, 60] [_, _, _, _, _, _, _, _] fun h => ?_
 obtain ⟨B49, eB49, hS⟩ := bv hS
 obtain ⟨f49, hf49, hS⟩ := bo hS
 refine c_rangeF (fun D pre Z hl => ∃ (s49 : (List (List (T)))) (sv50 : Value) (cs50 : List (Cl 1)), foldO B49 s18.2.2.2 pre = some s49 ∧ hl = [.blk p1 (Cel [.int .i64 x0.k, .int .i64 x0.op, .int .i64 x0.v.k, .int .i64 x0.v.n, S x0.v.s, .int .i64 x0.a.c.s, .int .i64 x0.a.c.c, .int .i64 x0.a.c.r, .bool x0.a.ac, .bool x0.a.ar, .int .i64 x0.b.c.s, .int .i64 x0.b.c.c, .int .i64 x0.b.c.r, .bool x0.b.ac, .bool x0.b.ar, S x0.nm, xv0] 33), .blk p2 (Cel [v1_0_20] 42), .blk p3 (Cel [.bool s18.2.2.1] 4), .blk p4 (Cel [sv50] 129), .row 42 1 sv50 cs50.length (cs50.flatMap Subtype.val), .blk p30 (Cel [.int .i64 z28.k, .int .i64 z28.op, .int .i64 z28.v.k, .int .i64 z28.v.n, S z28.v.s, .int .i64 z28.a.c.s, .int .i64 z28.a.c.c, .int .i64 z28.a.c.r, .bool z28.a.ac, .bool z28.a.ar, .int .i64 z28.b.c.s, .int .i64 z28.b.c.c, .int .i64 z28.b.c.r, .bool z28.b.ac, .bool z28.b.ar, S z28.nm, v35_29_1] 33), .blk p32 (Cel [.int .i64 y31.1.s, .int .i64 y31.1.c, .int .i64 y31.1.r] 28), .blk p33 (Cel [.int .i64 y31.2.1.s, .int .i64 y31.2.1.c, .int .i64 y31.2.1.r] 28)] ∧ DZ w0 Zi Z (D :: Ds22) ∧ EL polyEnc Z cs50 s49 ∧ RdN Z xv0 nodeEnc x0.l ∧ RdN Z v1_0_20 termEnc s18.2.1 ∧ RdN Z v35_29_1 nodeEnc z28.l ∧ Z pb1 = some (Cel ((x1 : List V).flatMap vL) 39)) h H dz it60_47 call112 ?_ ?_ ?_
 intro D Z hsub dz
 have el4 := el4.sub hsub
 have it60_47 := it60_47.sub hsub
 have r1_0_20 := r1_0_20.sub hsub
 have r35_29_1 := r35_29_1.sub hsub
 have rp0 := rp0.sub hsub
 have hp1 := hsub _ _ hp1
 exact ⟨_, _, _, rfl, rfl, dz, el4, rp0, r1_0_20, r35_29_1, hp1⟩
 rintro D R o pre x Z1 Z hl a w hpx ⟨s49, sv50, cs50, hfs, rfl, dz, el4, rp0, r1_0_20, r35_29_1, hp1⟩ hsub H h
 have dz := dz.sub hsub
 have el4 := el4.sub hsub
 have r1_0_20 := r1_0_20.sub hsub
 have r35_29_1 := r35_29_1.sub hsub
 have rp0 := rp0.sub hsub
 have hp1 := hsub _ _ hp1
 obtain ⟨q49, hS, hfs⟩ := fold_step hf49 hfs hpx
 replace hS := fdS eB49 hS
 have H : HZ w0 _ _ [_, _, _, _, _, _, _, _, _] _ := H
 refine rb_region ?_
 refine zA h H zeroValue28 [_, _, _] (fun x => [_, _, _, _, _, _, _, _, _, x]) fun a p51 w X H h => ?_
 refine zS h H 9 sizeOf28 [_, _, _] [_, _, _] [_, _, _, _, _, _, _, _, _, _] fun w H => ?_
 refine rb_nil ?_
 refine ⟨H.hp.get 8 rfl, fun o => ?_⟩
 have H := H.putAt 8 rfl o rfl
 have H : HZ w0 _ _ [_, _, _, _, _, _, _, _, _, _] _ := H
 revert H
 generalize World.putObj _ _ _ = w
 intro H
 refine rb_block ?_
 refine rb_flowT 4 h ?_
 refine F1 rfl (fun w X => have H := H.ext X; l1 H 3 isAgg129) ?_
 refine F1 rfl (fun w X => have H := H.ext X; lA H 9 isAgg28 sizeOf28 [_, _, _]) ?_
 obtain ⟨y52, f52, hS⟩ := bo hS
 refine f_op [63] rfl rfl rfl rfl false (.rel (fun w' v' => RdN (ZB Z w.heap.size w') v' termEnc y52)) rn_stab (fun w X => ?_) ?_
 skip
 exact have Hs := ZB.of H.zin X; have H := H.ext X; Does.doesR (dC call45 (poly_Var_ok (x0 := x) f52 (ZB.inn H.zin))) (fun v w' hr => ⟨hr.1.sub (ZB.back2 X hr.2), hr.2⟩)
 refine f_op [64] rfl rfl rfl rfl false (.rel (fun w' v' => RdN (ZB Z w.heap.size w') v' polyEnc (([y52] : List (List (T)))))) rn_stab (fun w X => ?_) ?_
 intro v64 h64
 exact d_sliceRN (E := polyEnc) (data := [y52]) ([⟨[v64], rfl⟩] : List (Cl 1)) H.zin X underlying129 sizeOf42 zeroValue42 rfl (zl := [.slice none 0 0]) (by kernel_rfl) (plA_get 1 1) [_] [_] rfl (by obtain ⟨_, _, _, e_⟩ := (h64).form; subst e_; rfl) rfl rfl ⟨⟨_, rfl, h64⟩, trivial⟩
 refine fn_ ?_
 intro a w X hR hA
 obtain ⟨v65_54, r65_54, h⟩ := hR.out [6, 62, 65]
 have h : Fr _ [(65, _), (62, _), (6, _)] a := h
 obtain ⟨Z, hsub, hadd, H⟩ := H.adopt' X
 have dz := dz.sub hsub
 have el4 := el4.sub hsub
 have r1_0_20 := r1_0_20.sub hsub
 have r35_29_1 := r35_29_1.sub hsub
 have rp0 := rp0.sub hsub
 have hp1 := hsub _ _ hp1
 have r65_54 := r65_54.sub hadd
 obtain ⟨c56, hS⟩ := ck hS
 obtain ⟨z57, e57, hS⟩ := bv hS
 obtain ⟨cy_55, ry_55, ey_55⟩ := id r65_54
 refine z_appendS (enc := (Subtype.val (p := fun l : List Value => l.length = 1))) (out := cs50) (data := cy_55) h H 4 rfl underlying129 app42 rfl rfl rfl ry_55 (fun c => c.2) ey_55.one (bnd el4.len ey_55.len c56) rfl fun a v66_55 w H h => ?_
 have el4 := EL.append el4 ey_55
 rw [← e57] at el4
 have el4 : EL polyEnc Z (List.append (α := Cl 1) cs50 cy_55) z57 := el4
 have H : HZ w0 _ _ [_, _, _, _, _, _, _, _, _, _] _ := H
 refine z_store h H 3 rfl rfl rfl sizeOf129 [v66_55] (by rw [(H.rowN (i := 4) rfl el4).cells]) rfl (by obtain ⟨_, _, _, e_⟩ := (H.rowN (i := 4) rfl el4).form; subst e_; rfl) (by simp) [_] rfl (hl' := [_, _, _, _, _, _, _, _, _, _]) rfl fun w H => ?_
 refine rb_nil ?_
 refine cO h [] [] fun h => ?_
 cases hS
 exact ⟨_, [_, _, _, _, _, _, _, _], ⟨_, _, _, hfs, rfl, dz, el4, rp0, r1_0_20, r35_29_1, hp1⟩, H.keepN 9 rfl⟩
 rintro D49 Z1 Z hl R o a w ⟨q49, sv58, cs58, hfs, rfl, dz, el4, rp0, r1_0_20, r35_29_1, hp1⟩ hsub H h
 have e_ := so (hf49.symm.trans hfs)
 subst e_
 have dz := dz.sub hsub
 have el4 := el4.sub hsub
 have r1_0_20 := r1_0_20.sub hsub
 have r35_29_1 := r35_29_1.sub hsub
 have rp0 := rp0.sub hsub
 have hp1 := hsub _ _ hp1
 have H := H.keepN 8 rfl
 have H : HZ w0 _ _ [_, _, _, _, _, _, _, _] _ := H
 refine c_lregion ?_
 refine sI h hS rfl (v_addw rfl rfl) fun z59 e59 hS a h => ?_
 refine cps 1 h rfl fun a h => ?_
 refine c_lnil ?_
 exact exL (ex6 ⟨lpN en18 hS, h.to, (H.keepN 5 rfl), r1_0_20, el4, rp0, hp1, dz⟩)
 exact c_exit (ex6 ⟨hS, h.to, H, r1_0_20, el4, rp0, hp1, dz⟩)
 refine rg fun K k => ?_
 refine sB h hS rfl (v_seq rfl rfl) fun z60 e60 hS a h => ?_
 refine cps 1 h rfl fun a h => ?_
 refine cz k ?_
 refine cI h hS rfl (fun ec61 hS => ?_) fun ec61 hS => ?_
 refine rg fun K k => ?_
 refine cps 1 h rfl fun a h => ?_
 refine s1 h rfl (v_fieldAddr rfl underlying33 rfl sizeOf31 rfl rfl) fun a h => ?_
 refine s1 h rfl (l1 H 0 isAgg31) fun a h => ?_
 obtain ⟨c62, hS⟩ := ck hS
 obtain ⟨z63, e63, hS⟩ := bv hS
 have q_64 := rp0.gel ⟨_, nodeEnc_dflt⟩ 0
 rw [← e63] at q_64
 obtain ⟨css_64, cl_64, rc_64, hc_64, q_64⟩ := q_64
 obtain ⟨v74_64_1, hcs_64, r74_64_1⟩ := node_op q_64
 refine st_idxC h underlying31 sizeOf33 rfl rfl (rc_64.at H.zin) c62.1 (hc_64 c62) hcs_64 rfl fun a v74 A74 h => ?_
 refine s1 h rfl (v_loadAtA [_, _, _, _, _, _, _, _, _, _, _, _, _, _, _, _, _] rfl A74 isAgg33 sizeOf33 rfl rfl) fun a h => ?_
 obtain ⟨y65, f65, hS⟩ := bo hS
 refine st2v (T := Ext) (V := .tuple #[.agg #[.int .i64 y65.1.s, .int .i64 y65.1.c, .int .i64 y65.1.r], .agg #[.int .i64 y65.2.1.s, .int .i64 y65.2.1.c, .int .i64 y65.2.1.r], .bool y65.2.2]) h rfl rfl rfl (dC call52 (eval_Area_ok f65 H.zin r74_64_1 hp1 lp1)) fun w X a h => ?_
 have H := H.ext X
 have A74 := At.ext A74 X
 refine cps 4 h rfl fun a h => ?_
 refine zA h H zeroValue28 [_, _, _] (fun x => [_, _, _, _, _, x]) fun a p66 w X H h => ?_
 have A74 := At.ext A74 X
 refine zA h H zeroValue28 [_, _, _] (fun x => [_, _, _, _, _, _, x]) fun a p67 w X H h => ?_
 have A74 := At.ext A74 X
 refine zS h H 5 sizeOf28 [_, _, _] [_, _, _] [_, _, _, _, _, _, _] fun w H => ?_
 refine zS h H 6 sizeOf28 [_, _, _] [_, _, _] [_, _, _, _, _, _, _] fun w H => ?_
 refine cps 1 h rfl fun a h => ?_
 refine cN k h [1, 2, 4, 5, 6, 15, 16, 17] [_, _, _, _, _, _, _, _] fun h => ?_
 refine rg fun K k => ?_
 refine cps 1 h rfl fun a h => ?_
 refine s1 h rfl (v_fieldAddr rfl underlying33 rfl sizeOf31 rfl rfl) fun a h => ?_
 refine s1 h rfl (l1 H 0 isAgg31) fun a h => ?_
 obtain ⟨c68, hS⟩ := ck hS
 obtain ⟨z69, e69, hS⟩ := bv hS
 have q_70 := rp0.gel ⟨_, nodeEnc_dflt⟩ 1
 rw [← e69] at q_70
 obtain ⟨css_70, cl_70, rc_70, hc_70, q_70⟩ := q_70
 obtain ⟨v84_70_1, hcs_70, r84_70_1⟩ := node_op q_70
 refine st_idxC h underlying31 sizeOf33 rfl rfl (rc_70.at H.zin) c68.1 (hc_70 c68) hcs_70 rfl fun a v84 A84 h => ?_
 refine s1 h rfl (v_loadAtA [_, _, _, _, _, _, _, _, _, _, _, _, _, _, _, _, _] rfl A84 isAgg33 sizeOf33 rfl rfl) fun a h => ?_
 obtain ⟨y71, f71, hS⟩ := bo hS
 refine st2v (T := Ext) (V := .tuple #[.agg #[.int .i64 y71.1.s, .int .i64 y71.1.c, .int .i64 y71.1.r], .agg #[.int .i64 y71.2.1.s, .int .i64 y71.2.1.c, .int .i64 y71.2.1.r], .bool y71.2.2]) h rfl rfl rfl (dC call52 (eval_Area_ok f71 H.zin r84_70_1 hp1 lp1)) fun w X a h => ?_
 have H := H.ext X
 have A84 := At.ext A84 X
 refine cps 4 h rfl fun a h => ?_
 refine zA h H zeroValue28 [_, _, _] (fun x => [_, _, _, _, _, _, _, x]) fun a p72 w X H h => ?_
 have A84 := At.ext A84 X
 refine zA h H zeroValue28 [_, _, _] (fun x => [_, _, _, _, _, _, _, _, x]) fun a p73 w X H h => ?_
 have A84 := At.ext A84 X
 refine zS h H 7 sizeOf28 [_, _, _] [_, _, _] [_, _, _, _, _, _, _, _, _] fun w H => ?_
 refine zS h H 8 sizeOf28 [_, _, _] [_, _, _] [_, _, _, _, _, _, _, _, _] fun w H => ?_
 refine cps 1 h rfl fun a h => ?_
 refine cN k h [4, 5, 6, 15, 16, 17, 18, 19, 20] [_, _, _, _, _, _, _, _, _] fun h => ?_
 refine sq ?_
 refine rg fun K k => ?_
 refine cps 1 h rfl fun a h => ?_
 refine sB h hS rfl (v_not rfl) fun z75 e75 hS a h => ?_
 refine cps 1 h rfl fun a h => ?_
 refine st_g h rfl rfl (gF rfl) rfl rfl (fun e0 => v_move rfl) fun a h => ?_
 obtain ⟨z76, e76, hS⟩ := bv hS
 refine st_g h rfl rfl (gF rfl) rfl rfl (fun e0 => vB e76 (v_not (eg e0 rfl))) fun a h => ?_
 refine sB h hS rfl (v_or rfl rfl) fun z77 e77 hS a h => ?_
 refine cps 1 h rfl fun a h => ?_
 refine st_g h rfl rfl (gF rfl) rfl rfl (fun e0 => v_fieldAddr rfl underlying28 rfl sizeOf3 rfl rfl) fun a h => ?_
 refine st_g h rfl rfl (gF rfl) rfl rfl (fun e0 => v_load1 (eg e0 rfl) isAgg3 (H.hp.get 6 rfl) rfl) fun a h => ?_
 refine st_g h rfl rfl (gF rfl) rfl rfl (fun e0 => v_fieldAddr rfl underlying28 rfl sizeOf3 rfl rfl) fun a h => ?_
 refine st_g h rfl rfl (gF rfl) rfl rfl (fun e0 => v_load1 (eg e0 rfl) isAgg3 (H.hp.get 5 rfl) rfl) fun a h => ?_
 obtain ⟨z78, e78, hS⟩ := bv hS
 refine st_g h rfl rfl (gF rfl) rfl rfl (fun e0 => vI e78 (v_subw (eg e0 rfl) (eg e0 rfl))) fun a h => ?_
 refine st_g h rfl rfl (gF rfl) rfl rfl (fun e0 => v_fieldAddr rfl underlying28 rfl sizeOf3 rfl rfl) fun a h => ?_
 refine st_g h rfl rfl (gF rfl) rfl rfl (fun e0 => v_load1 (eg e0 rfl) isAgg3 (H.hp.get 8 rfl) rfl) fun a h => ?_
 refine st_g h rfl rfl (gF rfl) rfl rfl (fun e0 => v_fieldAddr rfl underlying28 rfl sizeOf3 rfl rfl) fun a h => ?_
 refine st_g h rfl rfl (gF rfl) rfl rfl (fun e0 => v_load1 (eg e0 rfl) isAgg3 (H.hp.get 7 rfl) rfl) fun a h => ?_
 obtain ⟨z79, e79, hS⟩ := bv hS
 refine st_g h rfl rfl (gF rfl) rfl rfl (fun e0 => vI e79 (v_subw (eg e0 rfl) (eg e0 rfl))) fun a h => ?_
 obtain ⟨z80, e80, hS⟩ := bv hS
 refine st_g h rfl rfl (gF rfl) rfl rfl (fun e0 => vB e80 (v_ne (eg e0 rfl) (eg e0 rfl))) fun a h => ?_
 refine sB h hS rfl (v_or rfl rfl) fun z81 e81 hS a h => ?_
 refine cps 1 h rfl fun a h => ?_
 refine st_g h rfl rfl (gF rfl) rfl rfl (fun e0 => v_fieldAddr rfl underlying28 rfl sizeOf3 rfl rfl) fun a h => ?_
 refine st_g h rfl rfl (gF rfl) rfl rfl (fun e0 => v_load1 (eg e0 rfl) isAgg3 (H.hp.get 6 rfl) rfl) fun a h => ?_
 refine st_g h rfl rfl (gF rfl) rfl rfl (fun e0 => v_fieldAddr rfl underlying28 rfl sizeOf3 rfl rfl) fun a h => ?_
 refine st_g h rfl rfl (gF rfl) rfl rfl (fun e0 => v_load1 (eg e0 rfl) isAgg3 (H.hp.get 5 rfl) rfl) fun a h => ?_
 obtain ⟨z82, e82, hS⟩ := bv hS
 refine st_g h rfl rfl (gF rfl) rfl rfl (fun e0 => vI e82 (v_subw (eg e0 rfl) (eg e0 rfl))) fun a h => ?_
 refine st_g h rfl rfl (gF rfl) rfl rfl (fun e0 => v_fieldAddr rfl underlying28 rfl sizeOf3 rfl rfl) fun a h => ?_
 refine st_g h rfl rfl (gF rfl) rfl rfl (fun e0 => v_load1 (eg e0 rfl) isAgg3 (H.hp.get 8 rfl) rfl) fun a h => ?_
 refine st_g h rfl rfl (gF rfl) rfl rfl (fun e0 => v_fieldAddr rfl underlying28 rfl sizeOf3 rfl rfl) fun a h => ?_
 refine st_g h rfl rfl (gF rfl) rfl rfl (fun e0 => v_load1 (eg e0 rfl) isAgg3 (H.hp.get 7 rfl) rfl) fun a h => ?_
 obtain ⟨z83, e83, hS⟩ := bv hS
 refine st_g h rfl rfl (gF rfl) rfl rfl (fun e0 => vI e83 (v_subw (eg e0 rfl) (eg e0 rfl))) fun a h => ?_
 obtain ⟨z84, e84, hS⟩ := bv hS
 refine st_g h rfl rfl (gF rfl) rfl rfl (fun e0 => vB e84 (v_ne (eg e0 rfl) (eg e0 rfl))) fun a h => ?_
 refine sB h hS rfl (v_or rfl rfl) fun z85 e85 hS a h => ?_
 refine cN k h [4, 5, 6, 15, 16, 18, 121] [_, _, _, _, _, _, _] fun h => ?_
 refine cI h hS rfl (fun ec86 hS => ?_) fun ec86 hS => ?_
 refine rg fun K k => ?_
 refine zS h H 1 sizeOf42 [_] [_] [_, _, _, _, _, _, _, _, _] fun w H => ?_
 refine zS h H 2 sizeOf4 [_] [_] [_, _, _, _, _, _, _, _, _] fun w H => ?_
 refine cN k h [4, 5] [_, _] fun h => ?_
 cases hS
 refine c_ret (hr _ _ (outM h H dz fun a w less H h => ?_))
 have el4 := el4.subC less
 have rp0 := rp0.subC less
 refine out2 h rfl (rv1 H 1 isAgg42) (rv1 H 2 isAgg4) ⟨_, rfl, RdN.nil, H.out⟩
 refine c_skip ?_
 refine rg fun K k => ?_
 refine s1 h rfl (lA H 5 isAgg28 sizeOf28 [_, _, _]) fun a h => ?_
 refine s1 h rfl (lA H 6 isAgg28 sizeOf28 [_, _, _]) fun a h => ?_
 obtain ⟨y87, f87, hS⟩ := bo hS
 refine st2 h rfl rfl rfl (dC call80 (addr_Cells_ok f87)) ?_
 rintro v_ w ⟨cp_87, rfl, it124_87, X⟩ a h
 obtain ⟨Z, hsub, hadd, H⟩ := H.adopt' X
 have dz := dz.sub hsub
 have el4 := el4.sub hsub
 have rp0 := rp0.sub hsub
 have hp1 := hsub _ _ hp1
 have it124_87 := it124_87.sub (ZB.empty.trans hadd)
 refine cN k h [4, 5, 6, 15, 18, 124] [_, _, _, _, _, _] fun h => ?_
 refine lb ?_
 refine cO h [4, 5, 6, 15, 18, 124] [_, _, _, _, _, _] fun h => ?_
 obtain ⟨B89, eB89, hS⟩ := bv hS
 obtain ⟨f89, hf89, hS⟩ := bo hS
 refine c_rangeF (fun D pre Z hl => ∃ (s89 : (List (T)) × Bool × (List (List (T)))) (v1_0_90 : Value) (sv91 : Value) (cs91 : List (Cl 1)), foldO B89 ([], false, ([] : List (List (T)))) pre = some s89 ∧ hl = [.blk p1 (Cel [.int .i64 x0.k, .int .i64 x0.op, .int .i64 x0.v.k, .int .i64 x0.v.n, S x0.v.s, .int .i64 x0.a.c.s, .int .i64 x0.a.c.c, .int .i64 x0.a.c.r, .bool x0.a.ac, .bool x0.a.ar, .int .i64 x0.b.c.s, .int .i64 x0.b.c.c, .int .i64 x0.b.c.r, .bool x0.b.ac, .bool x0.b.ar, S x0.nm, xv0] 33), .blk p2 (Cel [v1_0_90] 42), .blk p3 (Cel [.bool s89.2.1] 4), .blk p4 (Cel [sv91] 129), .row 42 1 sv91 cs91.length (cs91.flatMap Subtype.val), .blk p66 (Cel [.int .i64 y65.1.s, .int .i64 y65.1.c, .int .i64 y65.1.r] 28), .blk p67 (Cel [.int .i64 y65.2.1.s, .int .i64 y65.2.1.c, .int .i64 y65.2.1.r] 28), .blk p72 (Cel [.int .i64 y71.1.s, .int .i64 y71.1.c, .int .i64 y71.1.r] 28), .blk p73 (Cel [.int .i64 y71.2.1.s, .int .i64 y71.2.1.c, .int .i64 y71.2.1.r] 28)] ∧ DZ w0 Zi Z (D :: ([] : List Nat)) ∧ RdN Z v1_0_90 termEnc s89.1 ∧ EL polyEnc Z cs91 s89.2.2 ∧ RdN Z xv0 nodeEnc x0.l ∧ Z pb1 = some (Cel ((x1 : List V).flatMap vL) 39)) h H dz it124_87 call112 ?_ ?_ ?_
 intro D Z hsub dz
 have el4 := el4.sub hsub
 have it124_87 := it124_87.sub hsub
 have rp0 := rp0.sub hsub
 have hp1 := hsub _ _ hp1
 exact ⟨_, _, _, _, rfl, rfl, dz, RdN.nil, el4, rp0, hp1⟩
 rintro D R o pre x Z1 Z hl a w hpx ⟨s89, v1_0_90, sv91, cs91, hfs, rfl, dz, r1_0_90, el4, rp0, hp1⟩ hsub H h
 have dz := dz.sub hsub
 have el4 := el4.sub hsub
 have r1_0_90 := r1_0_90.sub hsub
 have rp0 := rp0.sub hsub
 have hp1 := hsub _ _ hp1
 obtain ⟨q89, hS, hfs⟩ := fold_step hf89 hfs hpx
 replace hS := fdS eB89 hS
 have H : HZ w0 _ _ [_, _, _, _, _, _, _, _, _, _] _ := H
 refine rb_region ?_
 refine zA h H zeroValue28 [_, _, _] (fun x => [_, _, _, _, _, _, _, _, _, _, x]) fun a p92 w X H h => ?_
 refine zS h H 10 sizeOf28 [_, _, _] [_, _, _] [_, _, _, _, _, _, _, _, _, _, _] fun w H => ?_
 refine rb_nil ?_
 refine ⟨H.hp.get 9 rfl, fun o => ?_⟩
 have H := H.putAt 9 rfl o rfl
 have H : HZ w0 _ _ [_, _, _, _, _, _, _, _, _, _, _] _ := H
 revert H
 generalize World.putObj _ _ _ = w
 intro H
 refine rb_block ?_
 refine rbs fun K k93 => ?_
 refine rb_region ?_
 refine s1 h rfl (v_fieldAddr rfl underlying28 rfl sizeOf3 rfl rfl) fun a h => ?_
 refine s1 h rfl (l1 H 7 isAgg3) fun a h => ?_
 refine s1 h rfl (v_fieldAddr rfl underlying28 rfl sizeOf3 rfl rfl) fun a h => ?_
 refine s1 h rfl (l1 H 7 isAgg3) fun a h => ?_
 refine s1 h rfl (v_fieldAddr rfl underlying28 rfl sizeOf3 rfl rfl) fun a h => ?_
 refine s1 h rfl (l1 H 10 isAgg3) fun a h => ?_
 refine sI h hS rfl (v_addw rfl rfl) fun z94 e94 hS a h => ?_
 refine s1 h rfl (v_fieldAddr rfl underlying28 rfl sizeOf3 rfl rfl) fun a h => ?_
 refine s1 h rfl (l1 H 5 isAgg3) fun a h => ?_
 refine sI h hS rfl (v_subw rfl rfl) fun z95 e95 hS a h => ?_
 refine s1 h rfl (v_fieldAddr rfl underlying28 rfl sizeOf3 rfl rfl) fun a h => ?_
 refine s1 h rfl (l1 H 7 isAgg3) fun a h => ?_
 refine s1 h rfl (v_fieldAddr rfl underlying28 rfl sizeOf3 rfl rfl) fun a h => ?_
 refine s1 h rfl (l1 H 10 isAgg3) fun a h => ?_
 refine sI h hS rfl (v_addw rfl rfl) fun z96 e96 hS a h => ?_
 refine s1 h rfl (v_fieldAddr rfl underlying28 rfl sizeOf3 rfl rfl) fun a h => ?_
 refine s1 h rfl (l1 H 5 isAgg3) fun a h => ?_
 refine sI h hS rfl (v_subw rfl rfl) fun z97 e97 hS a h => ?_
 refine s1 h rfl (v_build bld28 [_, _, _] [_, _, _] rfl rfl) fun a h => ?_
 refine zA h H zeroValue28 [_, _, _] (fun x => [_, _, _, _, _, _, _, _, _, _, _, x]) fun a p98 w X H h => ?_
 refine zS h H 11 sizeOf28 [_, _, _] [_, _, _] [_, _, _, _, _, _, _, _, _, _, _, _] fun w H => ?_
 refine rb_nil (k93 _ _ ?_)
 refine rbs fun K k99 => ?_
 refine rb_flow h ?_
 refine F1 rfl (fun w X => have H := H.ext X; lA H 10 isAgg28 sizeOf28 [_, _, _]) ?_
 obtain ⟨y100, f100, hS⟩ := bo hS
 refine f_op [146] rfl rfl rfl rfl false (.rel (fun w' v' => RdN (ZB Z w.heap.size w') v' termEnc y100)) rn_stab (fun w X => ?_) ?_
 skip
 exact have Hs := ZB.of H.zin X; have H := H.ext X; Does.doesR (dC call45 (poly_Var_ok (x0 := x) f100 (ZB.inn H.zin))) (fun v w' hr => ⟨hr.1.sub (ZB.back2 X hr.2), hr.2⟩)
 refine F1 rfl (fun w X => have H := H.ext X; lA H 11 isAgg28 sizeOf28 [_, _, _]) ?_
 obtain ⟨y102, f102, hS⟩ := bo hS
 refine f_op [148] rfl rfl rfl rfl false (.rel (fun w' v' => RdN (ZB Z w.heap.size w') v' termEnc y102)) rn_stab (fun w X => ?_) ?_
 skip
 exact have Hs := ZB.of H.zin X; have H := H.ext X; Does.doesR (dC call45 (poly_Var_ok (x0 := (⟨y71.1.s, z95, z97⟩ : C)) f102 (ZB.inn H.zin))) (fun v w' hr => ⟨hr.1.sub (ZB.back2 X hr.2), hr.2⟩)
 obtain ⟨y104, f104, hS⟩ := bo hS
 refine f_op [147, 149] rfl rfl rfl rfl false (.rel (fun w' v' => ∃ v150_105_1, v' = .tuple #[v150_105_1, .bool y104.2] ∧ RdN (ZB Z w.heap.size w') v150_105_1 termEnc y104.1)) (fun w w' v X h => by obtain ⟨v150_105_1, hv, hr0⟩ := h; exact ⟨_, hv, hr0.sub (ZB.grow X)⟩) (fun w X => ?_) ?_
 intro v147 h147 v149 h149
 exact have Hs := ZB.of H.zin X; have H := H.ext X; Does.doesR (dC call78 (poly_Mul_ok (x0 := y100) (x1 := y102) f104 (ZB.inn H.zin) h147 h149)) (fun v w' hr => by obtain ⟨v150_105_1, hv, hr0, X'⟩ := hr; exact ⟨⟨_, hv, hr0.sub (ZB.back2 X X')⟩, X'⟩)
 refine f_op [150] rfl rfl rfl rfl false (.rel (fun w' v' => ∃ v145_106_0, v' = .tuple #[v145_106_0, .bool y104.2] ∧ RdN (ZB Z w.heap.size w') v145_106_0 termEnc y104.1)) (fun w w' v X h => by obtain ⟨v145_106_0, hv, hr0⟩ := h; exact ⟨_, hv, hr0.sub (ZB.grow X)⟩) (fun w X => ?_) ?_
 intro v150 h150
 exact (v_move rfl).doesR h150
 refine f_op [145] rfl rfl rfl rfl false (.rel (fun w' v' => RdN (ZB Z w.heap.size w') v' termEnc y104.1)) rn_stab (fun w X => ?_) ?_
 intro v145 h145
 obtain ⟨v145_106_0, rfl, r145_106_0⟩ := h145
 exact Does.doesR (Val.does (v_extract rfl rfl)) (fun v w' hr => by obtain ⟨rfl, rfl⟩ := hr; exact ⟨r145_106_0, Ext.refl _⟩)
 refine f_op [145] rfl rfl rfl rfl false (.eq (.bool y104.2)) trivial (fun w X => ?_) ?_
 intro v145 h145
 obtain ⟨v145_106_0, rfl, r145_106_0⟩ := h145
 exact (v_extract rfl rfl).doesF
 refine f_op [151] rfl rfl rfl rfl false (.rel (fun w' v' => RdN (ZB Z w.heap.size w') v' termEnc y104.1)) rn_stab (fun w X => ?_) ?_
 intro v151 h151
 exact (v_assign rfl).doesR h151
 refine fcps 1 rfl ?_
 refine fn_ ?_
 intro a w X hR hA
 obtain ⟨v23_107, r23_107, h⟩ := hR.out [4, 5, 6, 23, 24]
 have h : Fr _ [(24, _), (23, _), (6, _), (5, _), (4, _)] a := h
 obtain ⟨Z, hsub, hadd, H⟩ := H.adopt' X
 have dz := dz.sub hsub
 have el4 := el4.sub hsub
 have r1_0_90 := r1_0_90.sub hsub
 have rp0 := rp0.sub hsub
 have hp1 := hsub _ _ hp1
 have r23_107 := r23_107.sub hadd
 refine k99 _ _ ?_
 refine rbs fun K k108 => ?_
 refine rbs fun K k109 => ?_
 refine rb_region ?_
 refine cps 1 h rfl fun a h => ?_
 refine sB h hS rfl (v_not rfl) fun z110 e110 hS a h => ?_
 refine rb_nil (k109 _ _ ?_)
 refine rb_if h hS rfl (fun ec111 hS => ?_) fun ec111 hS => ?_
 exact nomatch hS
 refine rb_skip (k108 _ _ ?_)
 refine rb_region ?_
 refine s1 h rfl (l1 H 3 isAgg129) fun a h => ?_
 refine cps 1 h rfl fun a h => ?_
 refine z_slice (enc := (Subtype.val (p := fun l : List Value => l.length = 1))) ([⟨[v23_107], rfl⟩] : List (Cl 1)) h H underlying129 sizeOf42 zeroValue42 rfl (zl := [.slice none 0 0]) (by kernel_rfl) (plA_get 1 1) [_] [_] rfl (by obtain ⟨_, _, _, e_⟩ := (r23_107).form; subst e_; rfl) rfl rfl rfl fun a v157_112 Z w hsub X H r157_112 h => ?_
 have dz := dz.sub hsub
 have el4 := el4.sub hsub
 have r1_0_90 := r1_0_90.sub hsub
 have r23_107 := r23_107.sub hsub
 have rp0 := rp0.sub hsub
 have hp1 := hsub _ _ hp1
 have r157_112 : RdN Z v157_112 polyEnc [y104.1] := ⟨_, r157_112, ⟨⟨_, rfl, r23_107⟩, trivial⟩⟩
 obtain ⟨c114, hS⟩ := ck hS
 obtain ⟨z115, e115, hS⟩ := bv hS
 obtain ⟨cy_113, ry_113, ey_113⟩ := id r157_112
 refine z_appendS (enc := (Subtype.val (p := fun l : List Value => l.length = 1))) (out := cs91) (data := cy_113) h H 4 rfl underlying129 app42 rfl rfl rfl ry_113 (fun c => c.2) ey_113.one (bnd el4.len ey_113.len c114) rfl fun a v158_113 w H h => ?_
 have el4 := EL.append el4 ey_113
 rw [← e115] at el4
 have el4 : EL polyEnc Z (List.append (α := Cl 1) cs91 cy_113) z115 := el4
 have H : HZ w0 _ _ [_, _, _, _, _, _, _, _, _, _, _, _] _ := H
 refine z_store h H 3 rfl rfl rfl sizeOf129 [v158_113] (by rw [(H.rowN (i := 4) rfl el4).cells]) rfl (by obtain ⟨_, _, _, e_⟩ := (H.rowN (i := 4) rfl el4).form; subst e_; rfl) (by simp) [_] rfl (hl' := [_, _, _, _, _, _, _, _, _, _, _, _]) rfl fun w H => ?_
 refine rb_nil ?_
 cases hS
 exact ⟨_, [_, _, _, _, _, _, _, _, _], ⟨_, _, _, _, hfs, rfl, dz, r1_0_90, el4, rp0, hp1⟩, H.keepN 10 rfl⟩
 rintro D89 Z1 Z hl R o a w ⟨q89, v1_0_116, sv117, cs117, hfs, rfl, dz, r1_0_116, el4, rp0, hp1⟩ hsub H h
 have e_ := so (hf89.symm.trans hfs)
 subst e_
 have dz := dz.sub hsub
 have el4 := el4.sub hsub
 have r1_0_116 := r1_0_116.sub hsub
 have rp0 := rp0.sub hsub
 have hp1 := hsub _ _ hp1
 have H := H.keepN 9 rfl
 have H : HZ w0 _ _ [_, _, _, _, _, _, _, _, _] _ := H
 exact ex6 ⟨hS, h.to, (H.keepN 5 rfl), r1_0_116, el4, rp0, hp1, dz⟩
 refine rg fun K k => ?_
 refine zS h H 1 sizeOf42 [_] [_] [_, _, _, _, _] fun w H => ?_
 refine zS h H 2 sizeOf4 [_] [_] [_, _, _, _, _] fun w H => ?_
 refine cN k h [4, 5] [_, _] fun h => ?_
 cases hS
 refine c_ret (hr _ _ (outM h H dz fun a w less H h => ?_))
 have el4 := el4.subC less
 have rp0 := rp0.subC less
 refine out2 h rfl (rv1 H 1 isAgg42) (rv1 H 2 isAgg4) ⟨_, rfl, RdN.nil, H.out⟩
theorem poly_Of_B_ok {rec : Nd → (List V) → Option ((List (T)) × Bool)} (hrec : ∀ {x0 : Nd} {x1 : List V} {res : (List (T)) × Bool} {w0 : World} (hS : rec x0 x1 = some res) {Z : FZ} (hZ : Z.inn w0) {xv0 : Value} (rp0 : RdN Z xv0 nodeEnc x0.l) {pb1 : Nat} (hp1 : Z pb1 = some (Cel ((x1 : List V).flatMap vL) 39)) (lp1 : x1.length = 128) (hG : GW w0), Calls Tryz.prog 15 [.agg #[.int .i64 x0.k, .int .i64 x0.op, .int .i64 x0.v.k, .int .i64 x0.v.n, S x0.v.s, .int .i64 x0.a.c.s, .int .i64 x0.a.c.c, .int .i64 x0.a.c.r, .bool x0.a.ac, .bool x0.a.ar, .int .i64 x0.b.c.s, .int .i64 x0.b.c.c, .int .i64 x0.b.c.r, .bool x0.b.ac, .bool x0.b.ar, S x0.nm, xv0], .iface 35 (.pointer (some ⟨pb1, 0, none⟩))].toArray w0 (Ret fun v w => ∃ u1, v = .tuple #[u1, .bool res.2] ∧ RdN (ZB Z w0.heap.size w) u1 termEnc res.1 ∧ Ext w0 w)) {x0 : Nd} {x1 : List V} {res : (List (T)) × Bool} {w0 : World} (hS : poly_Of_B rec x0 x1 = some res) {Z : FZ} (hZ : Z.inn w0) {xv0 : Value} (rp0 : RdN Z xv0 nodeEnc x0.l) {pb1 : Nat} (hp1 : Z pb1 = some (Cel ((x1 : List V).flatMap vL) 39)) (lp1 : x1.length = 128) (hG : GW w0) : Calls Tryz.prog 15 [.agg #[.int .i64 x0.k, .int .i64 x0.op, .int .i64 x0.v.k, .int .i64 x0.v.n, S x0.v.s, .int .i64 x0.a.c.s, .int .i64 x0.a.c.c, .int .i64 x0.a.c.r, .bool x0.a.ac, .bool x0.a.ar, .int .i64 x0.b.c.s, .int .i64 x0.b.c.c, .int .i64 x0.b.c.r, .bool x0.b.ac, .bool x0.b.ar, S x0.nm, xv0], .iface 35 (.pointer (some ⟨pb1, 0, none⟩))].toArray w0 (Ret fun v w => ∃ u1, v = .tuple #[u1, .bool res.2] ∧ RdN (ZB Z w0.heap.size w) u1 termEnc res.1 ∧ Ext w0 w) := by
 refine enS hZ func15 [0, 1] [_, _] fun Q a Zi eZi H h hr => ?_
 try rw [← eZi] at hr
 clear eZi
 unfold poly_Of_B at hS
 refine rg fun K k => ?_
 refine z_box h H rfl [_, _, _, _, _, _, _, _, _, _, _, _, _, _, _, _, _] rfl rfl fun a p1 w X H h => ?_
 have H : HZ w0 _ _ [_] _ := H
 refine cps 2 h rfl fun a h => ?_
 refine cz k ?_
 refine sq ?_
 refine rg fun K k => ?_
 refine s1 h rfl (v_fieldAddr rfl underlying33 rfl sizeOf3 rfl rfl) fun a h => ?_
 refine s1 h rfl (l1 H 0 isAgg3) fun a h => ?_
 refine cN k h [1, 2, 12] [_, _, _] fun h => ?_
 refine lb ?_
 refine rg fun K k => ?_
 refine sB h hS rfl (v_eq rfl rfl) fun z4 e4 hS a h => ?_
 refine cps 1 h rfl fun a h => ?_
 refine cz k ?_
 refine cI h hS rfl (fun ec5 hS => ?_) fun ec5 hS => ?_
 refine rg fun K k => ?_
 refine s1 h rfl (v_fieldAddr rfl underlying33 rfl sizeOf26 rfl rfl) fun a h => ?_
 refine s1 h rfl (v_fieldAddr rfl underlying26 rfl sizeOf2 rfl rfl) fun a h => ?_
 refine s1 h rfl (l1 H 0 isAgg2) fun a h => ?_
 refine sC h H hS rfl (fun y6 f6 => dC call50 (num_Whole_ok f6 :)) fun y6 hS w X H a h => ?_
 refine cps 5 h rfl fun a h => ?_
 refine cN k h [2, 6, 7] [_, _, _] fun h => ?_
 refine sq ?_
 refine rg fun K k => ?_
 refine s1 h rfl (v_fieldAddr rfl underlying33 rfl sizeOf26 rfl rfl) fun a h => ?_
 refine s1 h rfl (v_fieldAddr rfl underlying26 rfl sizeOf3 rfl rfl) fun a h => ?_
 refine s1 h rfl (l1 H 0 isAgg3) fun a h => ?_
 refine sB h hS rfl (v_ne rfl rfl) fun z8 e8 hS a h => ?_
 refine cps 1 h rfl fun a h => ?_
 refine st_g h rfl rfl (gF rfl) rfl rfl (fun e0 => v_move rfl) fun a h => ?_
 obtain ⟨z9, e9, hS⟩ := bv hS
 refine st_g h rfl rfl (gF rfl) rfl rfl (fun e0 => vB e9 (v_not (eg e0 rfl))) fun a h => ?_
 refine sB h hS rfl (v_or rfl rfl) fun z10 e10 hS a h => ?_
 refine cN k h [6, 29] [_, _] fun h => ?_
 refine cI h hS rfl (fun ec11 hS => ?_) fun ec11 hS => ?_
 refine rg fun K k => ?_
 refine cps 2 h rfl fun a h => ?_
 refine cz k ?_
 cases hS
 refine r2 hr h rfl rfl rfl ⟨_, rfl, RdN.nil, H.out⟩
 refine c_skip ?_
 refine rg fun K k => ?_
 refine cps 1 h rfl fun a h => ?_
 obtain ⟨y12, f12, hS⟩ := bo hS
 refine st2 h rfl rfl rfl (dC call51 (poly_Const_ok (x0 := y6.1) f12 H.zin)) ?_
 rintro v_ w ⟨v31_13_1, rfl, r31_13_1, X⟩ a h
 obtain ⟨Z, hsub, hadd, H⟩ := H.adopt' X
 have rp0 := rp0.sub hsub
 have hp1 := hsub _ _ hp1
 have r31_13_1 := r31_13_1.sub hadd
 refine cps 4 h rfl fun a h => ?_
 refine cN k h [4, 5] [_, _] fun h => ?_
 cases hS
 refine r2 hr h rfl rfl rfl ⟨_, rfl, r31_13_1.sub H.back, H.out⟩
 obtain ⟨J15, eJ15, hS⟩ := bv hS
 refine sqJ (fun a w => ∃ (Z : FZ) (s15 : Bool), J15 s15 = some res ∧ Fr 68 [(1, .iface 35 (.pointer (some ⟨pb1, 0, none⟩))), (2, .pointer (some ⟨p1, 0, none⟩)), (12, .int .i64 x0.k), (34, .bool s15)] a ∧ HZ w0 Zi Z [.blk p1 (Cel [.int .i64 x0.k, .int .i64 x0.op, .int .i64 x0.v.k, .int .i64 x0.v.n, S x0.v.s, .int .i64 x0.a.c.s, .int .i64 x0.a.c.c, .int .i64 x0.a.c.r, .bool x0.a.ac, .bool x0.a.ar, .int .i64 x0.b.c.s, .int .i64 x0.b.c.c, .int .i64 x0.b.c.r, .bool x0.b.ac, .bool x0.b.ar, S x0.nm, xv0] 33)] w ∧ RdN Z xv0 nodeEnc x0.l ∧ Z pb1 = some (Cel ((x1 : List V).flatMap vL) 39)) ?_ ?_
 rintro a w ⟨Z, s15, hS, h, H, rp0, hp1⟩
 subst eJ15
 refine cI h hS rfl (fun ec16 hS => ?_) fun ec16 hS => ?_
 refine rg fun K k => ?_
 refine cps 1 h rfl fun a h => ?_
 refine s1 h rfl (lA H 0 isAgg33 sizeOf33 [_, _, _, _, _, _, _, _, _, _, _, _, _, _, _, _, _]) fun a h => ?_
 obtain ⟨y17, f17, hS⟩ := bo hS
 refine st2v (T := Ext) (V := .tuple #[.agg #[.int .i64 y17.1.s, .int .i64 y17.1.c, .int .i64 y17.1.r], .agg #[.int .i64 y17.2.1.s, .int .i64 y17.2.1.c, .int .i64 y17.2.1.r], .bool y17.2.2]) h rfl rfl rfl (dC call52 (eval_Area_ok f17 H.zin rp0 hp1 lp1)) fun w X a h => ?_
 have H := H.ext X
 refine cps 4 h rfl fun a h => ?_
 refine zA h H zeroValue28 [_, _, _] (fun x => [_, x]) fun a p18 w X H h => ?_
 refine zA h H zeroValue28 [_, _, _] (fun x => [_, _, x]) fun a p19 w X H h => ?_
 refine zS h H 1 sizeOf28 [_, _, _] [_, _, _] [_, _, _] fun w H => ?_
 refine zS h H 2 sizeOf28 [_, _, _] [_, _, _] [_, _, _] fun w H => ?_
 refine cps 1 h rfl fun a h => ?_
 refine cN k h [8, 9, 10] [_, _, _] fun h => ?_
 refine sq ?_
 refine rg fun K k => ?_
 refine cps 1 h rfl fun a h => ?_
 refine sB h hS rfl (v_not rfl) fun z21 e21 hS a h => ?_
 refine cps 1 h rfl fun a h => ?_
 refine st_g h rfl rfl (gF rfl) rfl rfl (fun e0 => lA H 1 isAgg28 sizeOf28 [_, _, _]) fun a h => ?_
 refine st_g h rfl rfl (gF rfl) rfl rfl (fun e0 => lA H 2 isAgg28 sizeOf28 [_, _, _]) fun a h => ?_
 obtain ⟨z22, e22, hS⟩ := bv hS
 refine st_g h rfl rfl (gF rfl) rfl rfl (fun e0 => vB e22 (v_aggne (eg e0 rfl) (eg e0 rfl) age28 (agq28 _ _ _ _ _ _))) fun a h => ?_
 refine sB h hS rfl (v_or rfl rfl) fun z23 e23 hS a h => ?_
 refine cN k h [8, 51] [_, _] fun h => ?_
 refine cI h hS rfl (fun ec24 hS => ?_) fun ec24 hS => ?_
 refine rg fun K k => ?_
 refine cps 2 h rfl fun a h => ?_
 refine cz k ?_
 cases hS
 refine r2 hr h rfl rfl rfl ⟨_, rfl, RdN.nil, H.out⟩
 refine c_skip ?_
 refine rg fun K k => ?_
 refine s1 h rfl (lA H 1 isAgg28 sizeOf28 [_, _, _]) fun a h => ?_
 obtain ⟨y25, f25, hS⟩ := bo hS
 refine st2 h rfl rfl rfl (dC call45 (poly_Var_ok (x0 := y17.1) f25 H.zin)) ?_
 rintro v53_27_1 w ⟨r53_27_1, X⟩ a h
 obtain ⟨Z, hsub, hadd, H⟩ := H.adopt' X
 have rp0 := rp0.sub hsub
 have hp1 := hsub _ _ hp1
 have r53_27_1 := r53_27_1.sub hadd
 refine cps 2 h rfl fun a h => ?_
 refine cN k h [4, 5] [_, _] fun h => ?_
 cases hS
 refine r2 hr h rfl rfl rfl ⟨_, rfl, r53_27_1.sub H.back, H.out⟩
 refine rg fun K k => ?_
 refine sB h hS rfl (v_eq rfl rfl) fun z28 e28 hS a h => ?_
 refine cps 1 h rfl fun a h => ?_
 refine cz k ?_
 refine cI h hS rfl (fun ec29 hS => ?_) fun ec29 hS => ?_
 refine rg fun K k => ?_
 refine s1 h rfl (lA H 0 isAgg33 sizeOf33 [_, _, _, _, _, _, _, _, _, _, _, _, _, _, _, _, _]) fun a h => ?_
 refine cps 1 h rfl fun a h => ?_
 obtain ⟨y30, f30, hS⟩ := bo hS
 refine st2 h rfl rfl rfl (dC call53 (poly_binary_ok hrec f30 H.zin rp0 hp1 lp1 (hG.ext H.out))) ?_
 rintro v_ w ⟨v58_31_1, rfl, r58_31_1, X⟩ a h
 obtain ⟨Z, hsub, hadd, H⟩ := H.adopt' X
 have rp0 := rp0.sub hsub
 have hp1 := hsub _ _ hp1
 have r58_31_1 := r58_31_1.sub hadd
 refine cps 4 h rfl fun a h => ?_
 refine cN k h [4, 5] [_, _] fun h => ?_
 cases hS
 refine r2 hr h rfl rfl rfl ⟨_, rfl, r58_31_1.sub H.back, H.out⟩
 refine rg fun K k => ?_
 refine sB h hS rfl (v_eq rfl rfl) fun z32 e32 hS a h => ?_
 refine cps 1 h rfl fun a h => ?_
 refine cN k h [1, 2, 61] [_, _, _] fun h => ?_
 refine cI h hS rfl (fun ec33 hS => ?_) fun ec33 hS => ?_
 refine rg fun K k => ?_
 refine s1 h rfl (lA H 0 isAgg33 sizeOf33 [_, _, _, _, _, _, _, _, _, _, _, _, _, _, _, _, _]) fun a h => ?_
 refine cps 1 h rfl fun a h => ?_
 obtain ⟨y34, f34, hS⟩ := bo hS
 refine st2 h rfl rfl rfl (dC call54 (poly_call_ok hrec f34 H.zin rp0 hp1 lp1 (hG.ext H.out))) ?_
 rintro v_ w ⟨v65_35_1, rfl, r65_35_1, X⟩ a h
 obtain ⟨Z, hsub, hadd, H⟩ := H.adopt' X
 have rp0 := rp0.sub hsub
 have hp1 := hsub _ _ hp1
 have r65_35_1 := r65_35_1.sub hadd
 refine cps 4 h rfl fun a h => ?_
 refine cN k h [4, 5] [_, _] fun h => ?_
 cases hS
 refine r2 hr h rfl rfl rfl ⟨_, rfl, r65_35_1.sub H.back, H.out⟩
 refine c_skip ?_
 refine rg fun K k => ?_
 refine cps 2 h rfl fun a h => ?_
 refine cz k ?_
 cases hS
 refine r2 hr h rfl rfl rfl ⟨_, rfl, RdN.nil, H.out⟩
 refine rg fun K k => ?_
 refine sB h hS rfl (v_eq rfl rfl) fun z36 e36 hS a h => ?_
 refine cps 1 h rfl fun a h => ?_
 refine cz k ?_
 refine cI h hS rfl (fun ec37 hS => ?_) fun ec37 hS => ?_
 exact c_skip (ex2 ⟨hS, h.to, H, rp0, hp1⟩)
 refine rg fun K k => ?_
 refine sB h hS rfl (v_eq rfl rfl) fun z38 e38 hS a h => ?_
 refine cps 1 h rfl fun a h => ?_
 refine cN k h [1, 2, 12, 34] [_, _, _, _] fun h => ?_
 refine cI h hS rfl (fun ec39 hS => ?_) fun ec39 hS => ?_
 exact c_skip (ex2 ⟨hS, h.to, H, rp0, hp1⟩)
 refine c_lregion ?_
 refine sB h hS rfl (v_eq rfl rfl) fun z40 e40 hS a h => ?_
 refine cps 1 h rfl fun a h => ?_
 refine c_lnil ?_
 exact ex2 ⟨hS, h.to, H, rp0, hp1⟩
theorem poly_Of_ok (k : Nat) : ∀ {x0 : Nd} {x1 : List V} {res : (List (T)) × Bool} {w0 : World} (hS : poly_Of k x0 x1 = some res) {Z : FZ} (hZ : Z.inn w0) {xv0 : Value} (rp0 : RdN Z xv0 nodeEnc x0.l) {pb1 : Nat} (hp1 : Z pb1 = some (Cel ((x1 : List V).flatMap vL) 39)) (lp1 : x1.length = 128) (hG : GW w0), Calls Tryz.prog 15 [.agg #[.int .i64 x0.k, .int .i64 x0.op, .int .i64 x0.v.k, .int .i64 x0.v.n, S x0.v.s, .int .i64 x0.a.c.s, .int .i64 x0.a.c.c, .int .i64 x0.a.c.r, .bool x0.a.ac, .bool x0.a.ar, .int .i64 x0.b.c.s, .int .i64 x0.b.c.c, .int .i64 x0.b.c.r, .bool x0.b.ac, .bool x0.b.ar, S x0.nm, xv0], .iface 35 (.pointer (some ⟨pb1, 0, none⟩))].toArray w0 (Ret fun v w => ∃ u1, v = .tuple #[u1, .bool res.2] ∧ RdN (ZB Z w0.heap.size w) u1 termEnc res.1 ∧ Ext w0 w) := by
 induction k with
 | zero => intro x0 x1 res w0 hS; exact nomatch (show (none : Option ((List (T)) × Bool)) = some res from hS)
 | succ k ih => exact @poly_Of_B_ok (poly_Of k) @ih
end Go.Proofs.YtcecjdnkcbfhlaaGreatDoor
