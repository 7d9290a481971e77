/- Walks: the code computes what the partial functions say. -/
import Derived.Test.YtlpfcclecmalhaaDoorSpOf
import Derived.Test.YtlpfcclecmalhaaDoorWkCl
set_option linter.unusedSimpArgs false
set_option linter.unusedVariables false
set_option linter.unusedSectionVars false
namespace Go.Proofs.YtlpfcclecmalhaaDoor
open Go.Stp Go.RowKit Go.ValP Go.Sp _root_.Go.Proofs.Tryd
set_option maxRecDepth 100000
theorem poly_binary_ok {rec : Nd → (List V) → Option ((List (T)) × Bool)} (hrec : ∀ {x0 : Nd} {x1 : List V} {res : (List (T)) × Bool} {w0 : World} (hS : rec x0 x1 = some res) {Z : FZ} (hZ : Z.inn w0) {xv0 : Value} (rp0 : RdN Z xv0 nodeEnc x0.l) {pb1 : Nat} (hp1 : Z pb1 = some (Cel ((x1 : List V).flatMap vL) 58)) (lp1 : x1.length = 128) (hG : GW w0), Calls Tryd.prog 26 [.agg #[.int .i64 x0.k, .int .i64 x0.op, .int .i64 x0.v.k, .int .i64 x0.v.n, S x0.v.s, .int .i64 x0.a.c.s, .int .i64 x0.a.c.c, .int .i64 x0.a.c.r, .bool x0.a.ac, .bool x0.a.ar, .int .i64 x0.b.c.s, .int .i64 x0.b.c.c, .int .i64 x0.b.c.r, .bool x0.b.ac, .bool x0.b.ar, S x0.nm, xv0], .iface 52 (.pointer (some ⟨pb1, 0, none⟩))].toArray w0 (Ret fun v w => ∃ u1, v = .tuple #[u1, .bool res.2] ∧ RdN (ZB Z w0.heap.size w) u1 termEnc res.1 ∧ Ext w0 w)) {x0 : Nd} {x1 : List V} {res : (List (T)) × Bool} {w0 : World} (hS : poly_binary rec x0 x1 = some res) {Z : FZ} (hZ : Z.inn w0) {xv0 : Value} (rp0 : RdN Z xv0 nodeEnc x0.l) {pb1 : Nat} (hp1 : Z pb1 = some (Cel ((x1 : List V).flatMap vL) 58)) (lp1 : x1.length = 128) (hG : GW w0) : Calls Tryd.prog 48 [.agg #[.int .i64 x0.k, .int .i64 x0.op, .int .i64 x0.v.k, .int .i64 x0.v.n, S x0.v.s, .int .i64 x0.a.c.s, .int .i64 x0.a.c.c, .int .i64 x0.a.c.r, .bool x0.a.ac, .bool x0.a.ar, .int .i64 x0.b.c.s, .int .i64 x0.b.c.c, .int .i64 x0.b.c.r, .bool x0.b.ac, .bool x0.b.ar, S x0.nm, xv0], .iface 52 (.pointer (some ⟨pb1, 0, none⟩))].toArray w0 (Ret fun v w => ∃ u1, v = .tuple #[u1, .bool res.2] ∧ RdN (ZB Z w0.heap.size w) u1 termEnc res.1 ∧ Ext w0 w) := by
 refine enS hZ func48 [0, 1] [_, _] fun Q a Zi eZi H h hr => ?_
 try rw [← eZi] at hr
 clear eZi
 unfold poly_binary at hS
 refine rg fun K k => ?_
 refine z_box h H rfl [_, _, _, _, _, _, _, _, _, _, _, _, _, _, _, _, _] rfl rfl fun a p1 w X H h => ?_
 have H : HZ w0 _ _ [_] _ := H
 refine cps 2 h rfl fun a h => ?_
 refine cz k ?_
 refine rg fun K k => ?_
 refine s1 h rfl (v_fieldAddr rfl underlying64 rfl sizeOf62 rfl rfl) fun a h => ?_
 refine s1 h rfl (l1 H 0 isAgg62) fun a h => ?_
 obtain ⟨c2, hS⟩ := ck hS
 obtain ⟨z3, e3, hS⟩ := bv hS
 have q_4 := rp0.gel ⟨_, nodeEnc_dflt⟩ 0
 rw [← e3] at q_4
 obtain ⟨css_4, cl_4, rc_4, hc_4, q_4⟩ := q_4
 obtain ⟨v13_4_1, hcs_4, r13_4_1⟩ := node_op q_4
 refine st_idxC h underlying62 sizeOf64 rfl rfl (rc_4.at H.zin) c2.1 (hc_4 c2) hcs_4 rfl fun a v13 A13 h => ?_
 refine s1 h rfl (v_loadAtA [_, _, _, _, _, _, _, _, _, _, _, _, _, _, _, _, _] rfl A13 isAgg64 sizeOf64 rfl rfl) fun a h => ?_
 refine cps 1 h rfl fun a h => ?_
 obtain ⟨y5, f5, hS⟩ := bo hS
 refine st2 h rfl rfl rfl (dC call26 (hrec f5 H.zin r13_4_1 hp1 lp1 (hG.ext H.out))) ?_
 rintro v_ w ⟨v16_6_1, rfl, r16_6_1, X⟩ a h
 obtain ⟨Z, hsub, hadd, H⟩ := H.adopt' X
 have r13_4_1 := r13_4_1.sub hsub
 have rp0 := rp0.sub hsub
 have hp1 := hsub _ _ hp1
 have r16_6_1 := r16_6_1.sub hadd
 have A13 := At.ext A13 X
 refine cps 5 h rfl fun a h => ?_
 refine cN k h [1, 2, 6, 7] [_, _, _, _] fun h => ?_
 refine rg fun K k => ?_
 refine s1 h rfl (v_fieldAddr rfl underlying64 rfl sizeOf62 rfl rfl) fun a h => ?_
 refine s1 h rfl (l1 H 0 isAgg62) fun a h => ?_
 obtain ⟨c7, hS⟩ := ck hS
 obtain ⟨z8, e8, hS⟩ := bv hS
 have q_9 := rp0.gel ⟨_, nodeEnc_dflt⟩ 1
 rw [← e8] at q_9
 obtain ⟨css_9, cl_9, rc_9, hc_9, q_9⟩ := q_9
 obtain ⟨v22_9_1, hcs_9, r22_9_1⟩ := node_op q_9
 refine st_idxC h underlying62 sizeOf64 rfl rfl (rc_9.at H.zin) c7.1 (hc_9 c7) hcs_9 rfl fun a v22 A22 h => ?_
 refine s1 h rfl (v_loadAtA [_, _, _, _, _, _, _, _, _, _, _, _, _, _, _, _, _] rfl A22 isAgg64 sizeOf64 rfl rfl) fun a h => ?_
 refine cps 1 h rfl fun a h => ?_
 obtain ⟨y10, f10, hS⟩ := bo hS
 refine st2 h rfl rfl rfl (dC call26 (hrec f10 H.zin r22_9_1 hp1 lp1 (hG.ext H.out))) ?_
 rintro v_ w ⟨v25_11_1, rfl, r25_11_1, X⟩ a h
 obtain ⟨Z, hsub, hadd, H⟩ := H.adopt' X
 have r16_6_1 := r16_6_1.sub hsub
 have r22_9_1 := r22_9_1.sub hsub
 have rp0 := rp0.sub hsub
 have hp1 := hsub _ _ hp1
 have r25_11_1 := r25_11_1.sub hadd
 have A22 := At.ext A22 X
 refine cps 5 h rfl fun a h => ?_
 refine cN k h [2, 6, 7, 8, 9] [_, _, _, _, _] fun h => ?_
 refine sb ?_
 refine rg fun K k => ?_
 refine cps 1 h rfl fun a h => ?_
 refine sB h hS rfl (v_not rfl) fun z13 e13 hS a h => ?_
 refine cps 1 h rfl fun a h => ?_
 refine st_g h rfl rfl (gF rfl) rfl rfl (fun e0 => v_move rfl) fun a h => ?_
 obtain ⟨z14, e14, hS⟩ := bv hS
 refine st_g h rfl rfl (gF rfl) rfl rfl (fun e0 => vB e14 (v_not (eg e0 rfl))) fun a h => ?_
 refine sB h hS rfl (v_or rfl rfl) fun z15 e15 hS a h => ?_
 refine cps 1 h rfl fun a h => ?_
 refine cN k h [2, 6, 8, 28] [_, _, _, _] fun h => ?_
 refine cI h hS rfl (fun ec16 hS => ?_) fun ec16 hS => ?_
 refine rg fun K k => ?_
 refine cps 2 h rfl fun a h => ?_
 refine cN k h [4, 5] [_, _] fun h => ?_
 cases hS
 refine r2 hr h rfl rfl rfl ⟨_, rfl, RdN.nil, H.out⟩
 refine rg fun K k => ?_
 refine s1 h rfl (v_fieldAddr rfl underlying64 rfl sizeOf3 rfl rfl) fun a h => ?_
 refine s1 h rfl (l1 H 0 isAgg3) fun a h => ?_
 refine sB h hS rfl (v_eq rfl rfl) fun z17 e17 hS a h => ?_
 refine cps 1 h rfl fun a h => ?_
 refine cN k h [2, 6, 8, 35] [_, _, _, _] fun h => ?_
 refine cI h hS rfl (fun ec18 hS => ?_) fun ec18 hS => ?_
 refine rg fun K k => ?_
 refine cps 2 h rfl fun a h => ?_
 refine z_slice (enc := (Subtype.val (p := fun l : List Value => l.length = 1))) ([⟨[v16_6_1], rfl⟩, ⟨[v25_11_1], rfl⟩] : List (Cl 1)) h H underlying76 sizeOf25 zeroValue25 rfl (zl := [.slice none 0 0, .slice none 0 0]) (by kernel_rfl) (plA_get 2 1) [_, _] [_, _] rfl (by obtain ⟨_, _, _, e_⟩ := (r16_6_1).form; subst e_; obtain ⟨_, _, _, e_⟩ := (r25_11_1).form; subst e_; rfl) rfl rfl rfl fun a v41_19 Z w hsub X H r41_19 h => ?_
 have r16_6_1 := r16_6_1.sub hsub
 have r25_11_1 := r25_11_1.sub hsub
 have rp0 := rp0.sub hsub
 have hp1 := hsub _ _ hp1
 have r41_19 : RdN Z v41_19 polyEnc [y5.1, y10.1] := ⟨_, r41_19, ⟨⟨_, rfl, r16_6_1⟩, ⟨_, rfl, r25_11_1⟩, trivial⟩⟩
 obtain ⟨y20, f20, hS⟩ := bo hS
 refine st2 h rfl rfl rfl (dC call12 (poly_Add_ok (x0 := [y5.1, y10.1]) f20 H.zin r41_19)) ?_
 rintro v_ w ⟨v42_21_1, rfl, r42_21_1, X⟩ a h
 obtain ⟨Z, hsub, hadd, H⟩ := H.adopt' X
 have r16_6_1 := r16_6_1.sub hsub
 have r25_11_1 := r25_11_1.sub hsub
 have r41_19 := r41_19.sub hsub
 have rp0 := rp0.sub hsub
 have hp1 := hsub _ _ hp1
 have r42_21_1 := r42_21_1.sub hadd
 refine cps 4 h rfl fun a h => ?_
 refine cN k h [4, 5] [_, _] fun h => ?_
 cases hS
 refine r2 hr h rfl rfl rfl ⟨_, rfl, r42_21_1.sub H.back, H.out⟩
 refine rg fun K k => ?_
 refine s1 h rfl (v_fieldAddr rfl underlying64 rfl sizeOf3 rfl rfl) fun a h => ?_
 refine s1 h rfl (l1 H 0 isAgg3) fun a h => ?_
 refine sB h hS rfl (v_eq rfl rfl) fun z22 e22 hS a h => ?_
 refine cps 1 h rfl fun a h => ?_
 refine cN k h [6, 8, 45] [_, _, _] fun h => ?_
 refine cI h hS rfl (fun ec23 hS => ?_) fun ec23 hS => ?_
 refine rg fun K k => ?_
 refine cps 2 h rfl fun a h => ?_
 obtain ⟨y24, f24, hS⟩ := bo hS
 refine st2 h rfl rfl rfl (dC call13 (poly_Mul_ok (x0 := y5.1) (x1 := y10.1) f24 H.zin r16_6_1 r25_11_1)) ?_
 rintro v_ w ⟨v51_25_1, rfl, r51_25_1, X⟩ a h
 obtain ⟨Z, hsub, hadd, H⟩ := H.adopt' X
 have r16_6_1 := r16_6_1.sub hsub
 have r25_11_1 := r25_11_1.sub hsub
 have rp0 := rp0.sub hsub
 have hp1 := hsub _ _ hp1
 have r51_25_1 := r51_25_1.sub hadd
 refine cps 4 h rfl fun a h => ?_
 refine cN k h [4, 5] [_, _] fun h => ?_
 cases hS
 refine r2 hr h rfl rfl rfl ⟨_, rfl, r51_25_1.sub H.back, H.out⟩
 refine c_skip ?_
 refine rg fun K k => ?_
 refine cps 2 h rfl fun a h => ?_
 refine cz k ?_
 cases hS
 refine r2 hr h rfl rfl rfl ⟨_, rfl, RdN.nil, H.out⟩

theorem poly_call_ok {rec : Nd → (List V) → Option ((List (T)) × Bool)} (hrec : ∀ {x0 : Nd} {x1 : List V} {res : (List (T)) × Bool} {w0 : World} (hS : rec x0 x1 = some res) {Z : FZ} (hZ : Z.inn w0) {xv0 : Value} (rp0 : RdN Z xv0 nodeEnc x0.l) {pb1 : Nat} (hp1 : Z pb1 = some (Cel ((x1 : List V).flatMap vL) 58)) (lp1 : x1.length = 128) (hG : GW w0), Calls Tryd.prog 26 [.agg #[.int .i64 x0.k, .int .i64 x0.op, .int .i64 x0.v.k, .int .i64 x0.v.n, S x0.v.s, .int .i64 x0.a.c.s, .int .i64 x0.a.c.c, .int .i64 x0.a.c.r, .bool x0.a.ac, .bool x0.a.ar, .int .i64 x0.b.c.s, .int .i64 x0.b.c.c, .int .i64 x0.b.c.r, .bool x0.b.ac, .bool x0.b.ar, S x0.nm, xv0], .iface 52 (.pointer (some ⟨pb1, 0, none⟩))].toArray w0 (Ret fun v w => ∃ u1, v = .tuple #[u1, .bool res.2] ∧ RdN (ZB Z w0.heap.size w) u1 termEnc res.1 ∧ Ext w0 w)) {x0 : Nd} {x1 : List V} {res : (List (T)) × Bool} {w0 : World} (hS : poly_call rec x0 x1 = some res) {Z : FZ} (hZ : Z.inn w0) {xv0 : Value} (rp0 : RdN Z xv0 nodeEnc x0.l) {pb1 : Nat} (hp1 : Z pb1 = some (Cel ((x1 : List V).flatMap vL) 58)) (lp1 : x1.length = 128) (hG : GW w0) : Calls Tryd.prog 49 [.agg #[.int .i64 x0.k, .int .i64 x0.op, .int .i64 x0.v.k, .int .i64 x0.v.n, S x0.v.s, .int .i64 x0.a.c.s, .int .i64 x0.a.c.c, .int .i64 x0.a.c.r, .bool x0.a.ac, .bool x0.a.ar, .int .i64 x0.b.c.s, .int .i64 x0.b.c.c, .int .i64 x0.b.c.r, .bool x0.b.ac, .bool x0.b.ar, S x0.nm, xv0], .iface 52 (.pointer (some ⟨pb1, 0, none⟩))].toArray w0 (Ret fun v w => ∃ u1, v = .tuple #[u1, .bool res.2] ∧ RdN (ZB Z w0.heap.size w) u1 termEnc res.1 ∧ Ext w0 w) := by
 refine enSM hZ func49 [0, 1] [_, _] fun Q a Zi eZi H h hr => ?_
 try rw [← eZi] at hr
 clear eZi
 have dz : DZ w0 Zi Z [] := DZ.nil
 have h : Fr ⟨163, marks []⟩ _ a := h
 unfold poly_call at hS
 refine rg fun K k => ?_
 refine z_box h H rfl [_, _, _, _, _, _, _, _, _, _, _, _, _, _, _, _, _] rfl rfl fun a p1 w X H h => ?_
 have H : HZ w0 _ _ [_] _ := H
 refine zA h H zeroValue25 [_] (fun x => [_, x]) fun a p2 w X H h => ?_
 refine zA h H zeroValue4 [_] (fun x => [_, _, x]) fun a p3 w X H h => ?_
 refine cz k ?_
 refine rg fun K k => ?_
 refine zA h H zeroValue76 [_] (fun x => [_, _, _, x]) fun a p4 w X H h => ?_
 refine cz k ?_
 have H := H.nilRow 25 1 rfl
 have H : HZ w0 _ _ [_, _, _, _, _] _ := H
 have el4 : EL polyEnc Z ([] : List (Cl 1)) ([] : List (List (T))) := trivial
 obtain ⟨J6, eJ6, hS⟩ := bv hS
 refine sqJ (fun a w => ∃ (Z : FZ) (s6 : (List (T)) × Bool × (List (List (T)))) (v1_0_7 : Value) (sv8 : Value) (cs8 : List (Cl 1)) (Ds9 : List Nat), J6 s6 = some res ∧ Fr ⟨163, marks Ds9⟩ [(4, .pointer (some ⟨p2, 0, none⟩)), (5, .pointer (some ⟨p3, 0, none⟩)), (6, .pointer (some ⟨p4, 0, none⟩))] a ∧ HZ w0 Zi Z [.blk p1 (Cel [.int .i64 x0.k, .int .i64 x0.op, .int .i64 x0.v.k, .int .i64 x0.v.n, S x0.v.s, .int .i64 x0.a.c.s, .int .i64 x0.a.c.c, .int .i64 x0.a.c.r, .bool x0.a.ac, .bool x0.a.ar, .int .i64 x0.b.c.s, .int .i64 x0.b.c.c, .int .i64 x0.b.c.r, .bool x0.b.ac, .bool x0.b.ar, S x0.nm, xv0] 64), .blk p2 (Cel [v1_0_7] 25), .blk p3 (Cel [.bool s6.2.1] 4), .blk p4 (Cel [sv8] 76), .row 25 1 sv8 cs8.length (cs8.flatMap Subtype.val)] w ∧ RdN Z v1_0_7 termEnc s6.1 ∧ EL polyEnc Z cs8 s6.2.2 ∧ RdN Z xv0 nodeEnc x0.l ∧ Z pb1 = some (Cel ((x1 : List V).flatMap vL) 58) ∧ DZ w0 Zi Z Ds9) ?_ ?_
 rintro a w ⟨Z, s6, v1_0_7, sv8, cs8, Ds9, hS, h, H, r1_0_7, el4, rp0, hp1, dz⟩
 subst eJ6
 refine rg fun K k => ?_
 refine s1 h rfl (l1 H 3 isAgg76) fun a h => ?_
 obtain ⟨Z, hsub, H, rz4_10⟩ := H.freezeRowN (E := polyEnc) 4 rfl el4
 have dz := dz.sub hsub
 have r1_0_7 := r1_0_7.sub hsub
 have rp0 := rp0.sub hsub
 have hp1 := hsub _ _ hp1
 have H : HZ w0 _ _ [_, _, _, _, _] _ := H
 obtain ⟨y11, f11, hS⟩ := bo hS
 refine st2 h rfl rfl rfl (dC call12 (poly_Add_ok (x0 := s6.2.2) f11 H.zin rz4_10)) ?_
 rintro v_ w ⟨v160_12_1, rfl, r160_12_1, X⟩ a h
 obtain ⟨Z, hsub, hadd, H⟩ := H.adopt' X
 have dz := dz.sub hsub
 have r1_0_7 := r1_0_7.sub hsub
 have rp0 := rp0.sub hsub
 have rz4_10 := rz4_10.sub hsub
 have hp1 := hsub _ _ hp1
 have r160_12_1 := r160_12_1.sub hadd
 refine cps 2 h rfl fun a h => ?_
 refine z_store h H 1 rfl rfl rfl sizeOf25 [v160_12_1] (by rw [r160_12_1.cells]) rfl (by obtain ⟨_, _, _, e_⟩ := (r160_12_1).form; subst e_; rfl) (by simp) [_] rfl (hl' := [_, _, _, _, _]) rfl fun w H => ?_
 refine zS h H 2 sizeOf4 [_] [_] [_, _, _, _, _] fun w H => ?_
 refine cN k h [4, 5] [_, _] fun h => ?_
 cases hS
 refine c_ret (hr _ _ (outM h H dz fun a w less H h => ?_))
 have r160_12_1 := r160_12_1.subC less
 have rp0 := rp0.subC less
 have rz4_10 := rz4_10.subC less
 refine out2 h rfl (rv1 H 1 isAgg25) (rv1 H 2 isAgg4) ⟨_, rfl, r160_12_1.sub H.back, H.out⟩
 refine rg fun K k => ?_
 refine s1 h rfl (v_fieldAddr rfl underlying64 rfl sizeOf3 rfl rfl) fun a h => ?_
 refine s1 h rfl (l1 H 0 isAgg3) fun a h => ?_
 refine sC h H hS rfl (fun y13 f13 => dC call62 (tree_Name_ok f13 (hG.ext H.out) :)) fun y13 hS w X H a h => ?_
 refine cz k ?_
 refine lb ?_
 refine rg fun K k => ?_
 refine sB h hS rfl (v_seq rfl rfl) fun z15 e15 hS a h => ?_
 refine cps 1 h rfl fun a h => ?_
 refine cN k h [1, 2, 4, 5, 6, 27, 28] [_, _, _, _, _, _, _] fun h => ?_
 refine cI h hS rfl (fun ec16 hS => ?_) fun ec16 hS => ?_
 refine rg fun K k => ?_
 refine s1 h rfl (v_fieldAddr rfl underlying64 rfl sizeOf62 rfl rfl) fun a h => ?_
 refine s1 h rfl (l1 H 0 isAgg62) fun a h => ?_
 refine s1 h rfl (v_lenN underlying62 rfl rp0 H.zin) fun a h => ?_
 refine cps 1 h rfl fun a h => ?_
 refine cN k h [1, 4, 5, 6, 31, 32, 33] [_, _, _, _, _, _, _] fun h => ?_
 refine lb ?_
 obtain ⟨B18, eB18, hS⟩ := bv hS
 refine lpJ (fun mu_ a w => ∃ (Z : FZ) (s18 : Int × (List (T)) × Bool × (List (List (T)))) (v1_0_20 : Value) (sv21 : Value) (cs21 : List (Cl 1)) (Ds22 : List Nat), loopF B18 mu_ s18 = some res ∧ Fr ⟨163, marks Ds22⟩ [(1, .iface 52 (.pointer (some ⟨pb1, 0, none⟩))), (4, .pointer (some ⟨p2, 0, none⟩)), (5, .pointer (some ⟨p3, 0, none⟩)), (6, .pointer (some ⟨p4, 0, none⟩)), (31, xv0), (32, .int .i64 (x0.l.length : Int)), (33, .int .i64 s18.1)] a ∧ HZ w0 Zi Z [.blk p1 (Cel [.int .i64 x0.k, .int .i64 x0.op, .int .i64 x0.v.k, .int .i64 x0.v.n, S x0.v.s, .int .i64 x0.a.c.s, .int .i64 x0.a.c.c, .int .i64 x0.a.c.r, .bool x0.a.ac, .bool x0.a.ar, .int .i64 x0.b.c.s, .int .i64 x0.b.c.c, .int .i64 x0.b.c.r, .bool x0.b.ac, .bool x0.b.ar, S x0.nm, xv0] 64), .blk p2 (Cel [v1_0_20] 25), .blk p3 (Cel [.bool s18.2.2.1] 4), .blk p4 (Cel [sv21] 76), .row 25 1 sv21 cs21.length (cs21.flatMap Subtype.val)] w ∧ RdN Z v1_0_20 termEnc s18.2.1 ∧ EL polyEnc Z cs21 s18.2.2.2 ∧ RdN Z xv0 nodeEnc x0.l ∧ Z pb1 = some (Cel ((x1 : List V).flatMap vL) 58) ∧ DZ w0 Zi Z Ds22) KK ⟨_, _, _, _, _, _, hS, h.to, H, RdN.nil, el4, rp0, hp1, dz⟩ ?_
 rintro mu_ a w ⟨Z, s18, v1_0_20, sv21, cs21, Ds22, hS, h, H, r1_0_20, el4, rp0, hp1, dz⟩
 obtain ⟨mu_, rfl, n18, en18, hS⟩ := lpX eB18 hS
 refine rg fun K k => ?_
 refine sB h hS rfl (v_lt rfl rfl) fun z23 e23 hS a h => ?_
 refine cz k ?_
 refine sq ?_
 refine cI h hS rfl (fun ec25 hS => ?_) fun ec25 hS => ?_
 refine c_skip ?_
 refine sb ?_
 refine rg fun K k => ?_
 obtain ⟨c27, hS⟩ := ck hS
 obtain ⟨z28, e28, hS⟩ := bv hS
 have q_29 := rp0.gel ⟨_, nodeEnc_dflt⟩ s18.1
 rw [← e28] at q_29
 obtain ⟨css_29, cl_29, rc_29, hc_29, q_29⟩ := q_29
 obtain ⟨v35_29_1, hcs_29, r35_29_1⟩ := node_op q_29
 refine st_idxC h underlying62 sizeOf64 rfl rfl (rc_29.at H.zin) c27.1 (hc_29 c27) hcs_29 rfl fun a v35 A35 h => ?_
 refine s1 h rfl (v_loadAtA [_, _, _, _, _, _, _, _, _, _, _, _, _, _, _, _, _] rfl A35 isAgg64 sizeOf64 rfl rfl) fun a h => ?_
 refine zA h H zeroValue64 [_, _, _, _, _, _, _, _, _, _, _, _, _, _, _, _, _] (fun x => [_, _, _, _, _, x]) fun a p30 w X H h => ?_
 have A35 := At.ext A35 X
 refine z_store h H 5 rfl rfl rfl sizeOf64 [_, _, _, _, _, _, _, _, _, _, _, _, _, _, _, _, _] rfl rfl (by obtain ⟨_, _, _, e_⟩ := (r35_29_1).form; subst e_; rfl) (by simp) [_, _, _, _, _, _, _, _, _, _, _, _, _, _, _, _, _] rfl (hl' := [_, _, _, _, _, _]) rfl fun w H => ?_
 refine cz k ?_
 refine rg fun K k => ?_
 refine cps 1 h rfl fun a h => ?_
 refine s1 h rfl (lA H 5 isAgg64 sizeOf64 [_, _, _, _, _, _, _, _, _, _, _, _, _, _, _, _, _]) fun a h => ?_
 obtain ⟨y31, f31, hS⟩ := bo hS
 refine st2v (T := Ext) (V := .tuple #[.agg #[.int .i64 y31.1.s, .int .i64 y31.1.c, .int .i64 y31.1.r], .agg #[.int .i64 y31.2.1.s, .int .i64 y31.2.1.c, .int .i64 y31.2.1.r], .bool y31.2.2]) h rfl rfl rfl (dC call47 (eval_Area_ok f31 H.zin r35_29_1 hp1 lp1)) fun w X a h => ?_
 have H := H.ext X
 refine cps 4 h rfl fun a h => ?_
 refine zA h H zeroValue40 [_, _, _] (fun x => [_, _, _, _, _, _, x]) fun a p32 w X H h => ?_
 refine zA h H zeroValue40 [_, _, _] (fun x => [_, _, _, _, _, _, _, x]) fun a p33 w X H h => ?_
 refine zS h H 6 sizeOf40 [_, _, _] [_, _, _] [_, _, _, _, _, _, _, _] fun w H => ?_
 refine zS h H 7 sizeOf40 [_, _, _] [_, _, _] [_, _, _, _, _, _, _, _] fun w H => ?_
 refine cps 1 h rfl fun a h => ?_
 refine cN k h [1, 4, 5, 6, 8, 9, 10, 11, 31, 32, 33] [_, _, _, _, _, _, _, _, _, _, _] fun h => ?_
 refine sq ?_
 refine rg fun K k => ?_
 refine cps 1 h rfl fun a h => ?_
 refine sB h hS rfl (v_not rfl) fun z35 e35 hS a h => ?_
 refine cz k ?_
 refine cI h hS rfl (fun ec36 hS => ?_) fun ec36 hS => ?_
 refine rg fun K k => ?_
 refine s1 h rfl (lA H 5 isAgg64 sizeOf64 [_, _, _, _, _, _, _, _, _, _, _, _, _, _, _, _, _]) fun a h => ?_
 refine cps 1 h rfl fun a h => ?_
 obtain ⟨y37, f37, hS⟩ := bo hS
 refine st2 h rfl rfl rfl (dC call26 (hrec f37 H.zin r35_29_1 hp1 lp1 (hG.ext H.out))) ?_
 rintro v_ w ⟨v49_38_1, rfl, r49_38_1, X⟩ a h
 obtain ⟨Z, hsub, hadd, H⟩ := H.adopt' X
 have dz := dz.sub hsub
 have el4 := el4.sub hsub
 have r1_0_20 := r1_0_20.sub hsub
 have r35_29_1 := r35_29_1.sub hsub
 have rp0 := rp0.sub hsub
 have hp1 := hsub _ _ hp1
 have r49_38_1 := r49_38_1.sub hadd
 refine cps 5 h rfl fun a h => ?_
 refine cN k h [1, 4, 5, 6, 12, 13, 31, 32, 33] [_, _, _, _, _, _, _, _, _] fun h => ?_
 refine sq ?_
 refine rg fun K k => ?_
 refine cps 1 h rfl fun a h => ?_
 refine sB h hS rfl (v_not rfl) fun z40 e40 hS a h => ?_
 refine cz k ?_
 refine cI h hS rfl (fun ec41 hS => ?_) fun ec41 hS => ?_
 refine rg fun K k => ?_
 refine zS h H 1 sizeOf25 [_] [_] [_, _, _, _, _, _, _, _] fun w H => ?_
 refine zS h H 2 sizeOf4 [_] [_] [_, _, _, _, _, _, _, _] fun w H => ?_
 refine cN k h [4, 5] [_, _] fun h => ?_
 cases hS
 refine c_ret (hr _ _ (outM h H dz fun a w less H h => ?_))
 have el4 := el4.subC less
 have r35_29_1 := r35_29_1.subC less
 have rp0 := rp0.subC less
 refine out2 h rfl (rv1 H 1 isAgg25) (rv1 H 2 isAgg4) ⟨_, rfl, RdN.nil, H.out⟩
 refine c_skip ?_
 refine rg fun K k => ?_
 refine s1 h rfl (l1 H 3 isAgg76) fun a h => ?_
 refine cps 1 h rfl fun a h => ?_
 refine z_slice (enc := (Subtype.val (p := fun l : List Value => l.length = 1))) ([⟨[v49_38_1], rfl⟩] : List (Cl 1)) h H underlying76 sizeOf25 zeroValue25 rfl (zl := [.slice none 0 0]) (by kernel_rfl) (plA_get 1 1) [_] [_] rfl (by obtain ⟨_, _, _, e_⟩ := (r49_38_1).form; subst e_; rfl) rfl rfl rfl fun a v56_42 Z w hsub X H r56_42 h => ?_
 have dz := dz.sub hsub
 have el4 := el4.sub hsub
 have r1_0_20 := r1_0_20.sub hsub
 have r35_29_1 := r35_29_1.sub hsub
 have r49_38_1 := r49_38_1.sub hsub
 have rp0 := rp0.sub hsub
 have hp1 := hsub _ _ hp1
 have r56_42 : RdN Z v56_42 polyEnc [y37.1] := ⟨_, r56_42, ⟨⟨_, rfl, r49_38_1⟩, trivial⟩⟩
 obtain ⟨c44, hS⟩ := ck hS
 obtain ⟨z45, e45, hS⟩ := bv hS
 obtain ⟨cy_43, ry_43, ey_43⟩ := id r56_42
 refine z_appendS (enc := (Subtype.val (p := fun l : List Value => l.length = 1))) (out := cs21) (data := cy_43) h H 4 rfl underlying76 app25 rfl rfl rfl ry_43 (fun c => c.2) ey_43.one (bnd el4.len ey_43.len c44) rfl fun a v57_43 w H h => ?_
 have el4 := EL.append el4 ey_43
 rw [← e45] at el4
 have el4 : EL polyEnc Z (List.append (α := Cl 1) cs21 cy_43) z45 := el4
 have H : HZ w0 _ _ [_, _, _, _, _, _, _, _] _ := H
 refine z_store h H 3 rfl rfl rfl sizeOf76 [v57_43] (by rw [(H.rowN (i := 4) rfl el4).cells]) rfl (by obtain ⟨_, _, _, e_⟩ := (H.rowN (i := 4) rfl el4).form; subst e_; rfl) (by simp) [_] rfl (hl' := [_, _, _, _, _, _, _, _]) rfl fun w H => ?_
 refine cN k h [1, 4, 5, 6, 31, 32, 33] [_, _, _, _, _, _, _] fun h => ?_
 refine c_exit ?_
 refine c_lregion ?_
 refine sI h hS rfl (v_addw rfl rfl) fun z46 e46 hS a h => ?_
 refine cps 1 h rfl fun a h => ?_
 refine c_lnil ?_
 exact exL (ex6 ⟨lpN en18 hS, h.to, (H.keepN 5 rfl), r1_0_20, el4, rp0, hp1, dz⟩)
 refine c_skip ?_
 refine cO h [1, 4, 5, 6, 9, 10, 31, 32, 33] [_, _, _, _, _, _, _, _, _] fun h => ?_
 refine rg fun K k => ?_
 refine s1 h rfl (lA H 6 isAgg40 sizeOf40 [_, _, _]) fun a h => ?_
 refine s1 h rfl (lA H 7 isAgg40 sizeOf40 [_, _, _]) fun a h => ?_
 obtain ⟨y47, f47, hS⟩ := bo hS
 refine st2 h rfl rfl rfl (dC call63 (addr_Cells_ok f47)) ?_
 rintro v_ w ⟨cp_47, rfl, it60_47, X⟩ a h
 obtain ⟨Z, hsub, hadd, H⟩ := H.adopt' X
 have dz := dz.sub hsub
 have el4 := el4.sub hsub
 have r1_0_20 := r1_0_20.sub hsub
 have r35_29_1 := r35_29_1.sub hsub
 have rp0 := rp0.sub hsub
 have hp1 := hsub _ _ hp1
 have it60_47 := it60_47.sub (ZB.empty.trans hadd)
 refine cN k h [1, 4, 5, 6, 31, 32, 33, 60] [_, _, _, _, _, _, _, _] fun h => ?_
 refine lb ?_
 refine cO h [1, 4, 5, 6, 31, 32, 33, 60] [_, _, _, _, _, _, _, _] fun h => ?_
 obtain ⟨B49, eB49, hS⟩ := bv hS
 obtain ⟨f49, hf49, hS⟩ := bo hS
 refine c_rangeF (fun D pre Z hl => ∃ (s49 : (List (List (T)))) (sv50 : Value) (cs50 : List (Cl 1)), foldO B49 s18.2.2.2 pre = some s49 ∧ hl = [.blk p1 (Cel [.int .i64 x0.k, .int .i64 x0.op, .int .i64 x0.v.k, .int .i64 x0.v.n, S x0.v.s, .int .i64 x0.a.c.s, .int .i64 x0.a.c.c, .int .i64 x0.a.c.r, .bool x0.a.ac, .bool x0.a.ar, .int .i64 x0.b.c.s, .int .i64 x0.b.c.c, .int .i64 x0.b.c.r, .bool x0.b.ac, .bool x0.b.ar, S x0.nm, xv0] 64), .blk p2 (Cel [v1_0_20] 25), .blk p3 (Cel [.bool s18.2.2.1] 4), .blk p4 (Cel [sv50] 76), .row 25 1 sv50 cs50.length (cs50.flatMap Subtype.val), .blk p30 (Cel [.int .i64 z28.k, .int .i64 z28.op, .int .i64 z28.v.k, .int .i64 z28.v.n, S z28.v.s, .int .i64 z28.a.c.s, .int .i64 z28.a.c.c, .int .i64 z28.a.c.r, .bool z28.a.ac, .bool z28.a.ar, .int .i64 z28.b.c.s, .int .i64 z28.b.c.c, .int .i64 z28.b.c.r, .bool z28.b.ac, .bool z28.b.ar, S z28.nm, v35_29_1] 64), .blk p32 (Cel [.int .i64 y31.1.s, .int .i64 y31.1.c, .int .i64 y31.1.r] 40), .blk p33 (Cel [.int .i64 y31.2.1.s, .int .i64 y31.2.1.c, .int .i64 y31.2.1.r] 40)] ∧ DZ w0 Zi Z (D :: Ds22) ∧ EL polyEnc Z cs50 s49 ∧ RdN Z xv0 nodeEnc x0.l ∧ RdN Z v1_0_20 termEnc s18.2.1 ∧ RdN Z v35_29_1 nodeEnc z28.l ∧ Z pb1 = some (Cel ((x1 : List V).flatMap vL) 58)) h H dz it60_47 call83 ?_ ?_ ?_
 intro D Z hsub dz
 have el4 := el4.sub hsub
 have it60_47 := it60_47.sub hsub
 have r1_0_20 := r1_0_20.sub hsub
 have r35_29_1 := r35_29_1.sub hsub
 have rp0 := rp0.sub hsub
 have hp1 := hsub _ _ hp1
 exact ⟨_, _, _, rfl, rfl, dz, el4, rp0, r1_0_20, r35_29_1, hp1⟩
 rintro D R o pre x Z1 Z hl a w hpx ⟨s49, sv50, cs50, hfs, rfl, dz, el4, rp0, r1_0_20, r35_29_1, hp1⟩ hsub H h
 have dz := dz.sub hsub
 have el4 := el4.sub hsub
 have r1_0_20 := r1_0_20.sub hsub
 have r35_29_1 := r35_29_1.sub hsub
 have rp0 := rp0.sub hsub
 have hp1 := hsub _ _ hp1
 obtain ⟨q49, hS, hfs⟩ := fold_step hf49 hfs hpx
 replace hS := fdS eB49 hS
 have H : HZ w0 _ _ [_, _, _, _, _, _, _, _, _] _ := H
 refine rb_region ?_
 refine zA h H zeroValue40 [_, _, _] (fun x => [_, _, _, _, _, _, _, _, _, x]) fun a p51 w X H h => ?_
 refine zS h H 9 sizeOf40 [_, _, _] [_, _, _] [_, _, _, _, _, _, _, _, _, _] fun w H => ?_
 refine rb_nil ?_
 refine ⟨H.hp.get 8 rfl, fun o => ?_⟩
 have H := H.putAt 8 rfl o rfl
 have H : HZ w0 _ _ [_, _, _, _, _, _, _, _, _, _] _ := H
 revert H
 generalize World.putObj _ _ _ = w
 intro H
 refine rb_block ?_
 refine rb_flowT 4 h ?_
 refine F1 rfl (fun w X => have H := H.ext X; l1 H 3 isAgg76) ?_
 refine F1 rfl (fun w X => have H := H.ext X; lA H 9 isAgg40 sizeOf40 [_, _, _]) ?_
 obtain ⟨y52, f52, hS⟩ := bo hS
 refine f_op [63] rfl rfl rfl rfl false (.rel (fun w' v' => RdN (ZB Z w.heap.size w') v' termEnc y52)) rn_stab (fun w X => ?_) ?_
 skip
 exact have Hs := ZB.of H.zin X; have H := H.ext X; Does.doesR (dC call17 (poly_Var_ok (x0 := x) f52 (ZB.inn H.zin))) (fun v w' hr => ⟨hr.1.sub (ZB.back2 X hr.2), hr.2⟩)
 refine f_op [64] rfl rfl rfl rfl false (.rel (fun w' v' => RdN (ZB Z w.heap.size w') v' polyEnc (([y52] : List (List (T)))))) rn_stab (fun w X => ?_) ?_
 intro v64 h64
 exact d_sliceRN (E := polyEnc) (data := [y52]) ([⟨[v64], rfl⟩] : List (Cl 1)) H.zin X underlying76 sizeOf25 zeroValue25 rfl (zl := [.slice none 0 0]) (by kernel_rfl) (plA_get 1 1) [_] [_] rfl (by obtain ⟨_, _, _, e_⟩ := (h64).form; subst e_; rfl) rfl rfl ⟨⟨_, rfl, h64⟩, trivial⟩
 refine fn_ ?_
 intro a w X hR hA
 obtain ⟨v65_54, r65_54, h⟩ := hR.out [6, 62, 65]
 have h : Fr 163 [(65, _), (62, _), (6, _)] a := h
 obtain ⟨Z, hsub, hadd, H⟩ := H.adopt' X
 have dz := dz.sub hsub
 have el4 := el4.sub hsub
 have r1_0_20 := r1_0_20.sub hsub
 have r35_29_1 := r35_29_1.sub hsub
 have rp0 := rp0.sub hsub
 have hp1 := hsub _ _ hp1
 have r65_54 := r65_54.sub hadd
 obtain ⟨c56, hS⟩ := ck hS
 obtain ⟨z57, e57, hS⟩ := bv hS
 obtain ⟨cy_55, ry_55, ey_55⟩ := id r65_54
 refine z_appendS (enc := (Subtype.val (p := fun l : List Value => l.length = 1))) (out := cs50) (data := cy_55) h H 4 rfl underlying76 app25 rfl rfl rfl ry_55 (fun c => c.2) ey_55.one (bnd el4.len ey_55.len c56) rfl fun a v66_55 w H h => ?_
 have el4 := EL.append el4 ey_55
 rw [← e57] at el4
 have el4 : EL polyEnc Z (List.append (α := Cl 1) cs50 cy_55) z57 := el4
 have H : HZ w0 _ _ [_, _, _, _, _, _, _, _, _, _] _ := H
 refine z_store h H 3 rfl rfl rfl sizeOf76 [v66_55] (by rw [(H.rowN (i := 4) rfl el4).cells]) rfl (by obtain ⟨_, _, _, e_⟩ := (H.rowN (i := 4) rfl el4).form; subst e_; rfl) (by simp) [_] rfl (hl' := [_, _, _, _, _, _, _, _, _, _]) rfl fun w H => ?_
 refine rb_nil ?_
 refine cO h [] [] fun h => ?_
 cases hS
 exact ⟨_, [_, _, _, _, _, _, _, _], ⟨_, _, _, hfs, rfl, dz, el4, rp0, r1_0_20, r35_29_1, hp1⟩, H.keepN 9 rfl⟩
 rintro D49 Z1 Z hl R o a w ⟨q49, sv58, cs58, hfs, rfl, dz, el4, rp0, r1_0_20, r35_29_1, hp1⟩ hsub H h
 have e_ := so (hf49.symm.trans hfs)
 subst e_
 have dz := dz.sub hsub
 have el4 := el4.sub hsub
 have r1_0_20 := r1_0_20.sub hsub
 have r35_29_1 := r35_29_1.sub hsub
 have rp0 := rp0.sub hsub
 have hp1 := hsub _ _ hp1
 have H := H.keepN 8 rfl
 have H : HZ w0 _ _ [_, _, _, _, _, _, _, _] _ := H
 refine c_lregion ?_
 refine sI h hS rfl (v_addw rfl rfl) fun z59 e59 hS a h => ?_
 refine cps 1 h rfl fun a h => ?_
 refine c_lnil ?_
 exact exL (ex6 ⟨lpN en18 hS, h.to, (H.keepN 5 rfl), r1_0_20, el4, rp0, hp1, dz⟩)
 exact c_exit (ex6 ⟨hS, h.to, H, r1_0_20, el4, rp0, hp1, dz⟩)
 refine rg fun K k => ?_
 refine sB h hS rfl (v_seq rfl rfl) fun z60 e60 hS a h => ?_
 refine cps 1 h rfl fun a h => ?_
 refine cz k ?_
 refine cI h hS rfl (fun ec61 hS => ?_) fun ec61 hS => ?_
 refine rg fun K k => ?_
 refine cps 1 h rfl fun a h => ?_
 refine s1 h rfl (v_fieldAddr rfl underlying64 rfl sizeOf62 rfl rfl) fun a h => ?_
 refine s1 h rfl (l1 H 0 isAgg62) fun a h => ?_
 obtain ⟨c62, hS⟩ := ck hS
 obtain ⟨z63, e63, hS⟩ := bv hS
 have q_64 := rp0.gel ⟨_, nodeEnc_dflt⟩ 0
 rw [← e63] at q_64
 obtain ⟨css_64, cl_64, rc_64, hc_64, q_64⟩ := q_64
 obtain ⟨v74_64_1, hcs_64, r74_64_1⟩ := node_op q_64
 refine st_idxC h underlying62 sizeOf64 rfl rfl (rc_64.at H.zin) c62.1 (hc_64 c62) hcs_64 rfl fun a v74 A74 h => ?_
 refine s1 h rfl (v_loadAtA [_, _, _, _, _, _, _, _, _, _, _, _, _, _, _, _, _] rfl A74 isAgg64 sizeOf64 rfl rfl) fun a h => ?_
 obtain ⟨y65, f65, hS⟩ := bo hS
 refine st2v (T := Ext) (V := .tuple #[.agg #[.int .i64 y65.1.s, .int .i64 y65.1.c, .int .i64 y65.1.r], .agg #[.int .i64 y65.2.1.s, .int .i64 y65.2.1.c, .int .i64 y65.2.1.r], .bool y65.2.2]) h rfl rfl rfl (dC call47 (eval_Area_ok f65 H.zin r74_64_1 hp1 lp1)) fun w X a h => ?_
 have H := H.ext X
 have A74 := At.ext A74 X
 refine cps 4 h rfl fun a h => ?_
 refine zA h H zeroValue40 [_, _, _] (fun x => [_, _, _, _, _, x]) fun a p66 w X H h => ?_
 have A74 := At.ext A74 X
 refine zA h H zeroValue40 [_, _, _] (fun x => [_, _, _, _, _, _, x]) fun a p67 w X H h => ?_
 have A74 := At.ext A74 X
 refine zS h H 5 sizeOf40 [_, _, _] [_, _, _] [_, _, _, _, _, _, _] fun w H => ?_
 refine zS h H 6 sizeOf40 [_, _, _] [_, _, _] [_, _, _, _, _, _, _] fun w H => ?_
 refine cps 1 h rfl fun a h => ?_
 refine cN k h [1, 2, 4, 5, 6, 15, 16, 17] [_, _, _, _, _, _, _, _] fun h => ?_
 refine rg fun K k => ?_
 refine cps 1 h rfl fun a h => ?_
 refine s1 h rfl (v_fieldAddr rfl underlying64 rfl sizeOf62 rfl rfl) fun a h => ?_
 refine s1 h rfl (l1 H 0 isAgg62) fun a h => ?_
 obtain ⟨c68, hS⟩ := ck hS
 obtain ⟨z69, e69, hS⟩ := bv hS
 have q_70 := rp0.gel ⟨_, nodeEnc_dflt⟩ 1
 rw [← e69] at q_70
 obtain ⟨css_70, cl_70, rc_70, hc_70, q_70⟩ := q_70
 obtain ⟨v84_70_1, hcs_70, r84_70_1⟩ := node_op q_70
 refine st_idxC h underlying62 sizeOf64 rfl rfl (rc_70.at H.zin) c68.1 (hc_70 c68) hcs_70 rfl fun a v84 A84 h => ?_
 refine s1 h rfl (v_loadAtA [_, _, _, _, _, _, _, _, _, _, _, _, _, _, _, _, _] rfl A84 isAgg64 sizeOf64 rfl rfl) fun a h => ?_
 obtain ⟨y71, f71, hS⟩ := bo hS
 refine st2v (T := Ext) (V := .tuple #[.agg #[.int .i64 y71.1.s, .int .i64 y71.1.c, .int .i64 y71.1.r], .agg #[.int .i64 y71.2.1.s, .int .i64 y71.2.1.c, .int .i64 y71.2.1.r], .bool y71.2.2]) h rfl rfl rfl (dC call47 (eval_Area_ok f71 H.zin r84_70_1 hp1 lp1)) fun w X a h => ?_
 have H := H.ext X
 have A84 := At.ext A84 X
 refine cps 4 h rfl fun a h => ?_
 refine zA h H zeroValue40 [_, _, _] (fun x => [_, _, _, _, _, _, _, x]) fun a p72 w X H h => ?_
 have A84 := At.ext A84 X
 refine zA h H zeroValue40 [_, _, _] (fun x => [_, _, _, _, _, _, _, _, x]) fun a p73 w X H h => ?_
 have A84 := At.ext A84 X
 refine zS h H 7 sizeOf40 [_, _, _] [_, _, _] [_, _, _, _, _, _, _, _, _] fun w H => ?_
 refine zS h H 8 sizeOf40 [_, _, _] [_, _, _] [_, _, _, _, _, _, _, _, _] fun w H => ?_
 refine cps 1 h rfl fun a h => ?_
 refine cN k h [4, 5, 6, 15, 16, 17, 18, 19, 20] [_, _, _, _, _, _, _, _, _] fun h => ?_
 refine sq ?_
 refine rg fun K k => ?_
 refine cps 1 h rfl fun a h => ?_
 refine sB h hS rfl (v_not rfl) fun z75 e75 hS a h => ?_
 refine cps 1 h rfl fun a h => ?_
 refine st_g h rfl rfl (gF rfl) rfl rfl (fun e0 => v_move rfl) fun a h => ?_
 obtain ⟨z76, e76, hS⟩ := bv hS
 refine st_g h rfl rfl (gF rfl) rfl rfl (fun e0 => vB e76 (v_not (eg e0 rfl))) fun a h => ?_
 refine sB h hS rfl (v_or rfl rfl) fun z77 e77 hS a h => ?_
 refine cps 1 h rfl fun a h => ?_
 refine st_g h rfl rfl (gF rfl) rfl rfl (fun e0 => v_fieldAddr rfl underlying40 rfl sizeOf3 rfl rfl) fun a h => ?_
 refine st_g h rfl rfl (gF rfl) rfl rfl (fun e0 => v_load1 (eg e0 rfl) isAgg3 (H.hp.get 6 rfl) rfl) fun a h => ?_
 refine st_g h rfl rfl (gF rfl) rfl rfl (fun e0 => v_fieldAddr rfl underlying40 rfl sizeOf3 rfl rfl) fun a h => ?_
 refine st_g h rfl rfl (gF rfl) rfl rfl (fun e0 => v_load1 (eg e0 rfl) isAgg3 (H.hp.get 5 rfl) rfl) fun a h => ?_
 obtain ⟨z78, e78, hS⟩ := bv hS
 refine st_g h rfl rfl (gF rfl) rfl rfl (fun e0 => vI e78 (v_subw (eg e0 rfl) (eg e0 rfl))) fun a h => ?_
 refine st_g h rfl rfl (gF rfl) rfl rfl (fun e0 => v_fieldAddr rfl underlying40 rfl sizeOf3 rfl rfl) fun a h => ?_
 refine st_g h rfl rfl (gF rfl) rfl rfl (fun e0 => v_load1 (eg e0 rfl) isAgg3 (H.hp.get 8 rfl) rfl) fun a h => ?_
 refine st_g h rfl rfl (gF rfl) rfl rfl (fun e0 => v_fieldAddr rfl underlying40 rfl sizeOf3 rfl rfl) fun a h => ?_
 refine st_g h rfl rfl (gF rfl) rfl rfl (fun e0 => v_load1 (eg e0 rfl) isAgg3 (H.hp.get 7 rfl) rfl) fun a h => ?_
 obtain ⟨z79, e79, hS⟩ := bv hS
 refine st_g h rfl rfl (gF rfl) rfl rfl (fun e0 => vI e79 (v_subw (eg e0 rfl) (eg e0 rfl))) fun a h => ?_
 obtain ⟨z80, e80, hS⟩ := bv hS
 refine st_g h rfl rfl (gF rfl) rfl rfl (fun e0 => vB e80 (v_ne (eg e0 rfl) (eg e0 rfl))) fun a h => ?_
 refine sB h hS rfl (v_or rfl rfl) fun z81 e81 hS a h => ?_
 refine cps 1 h rfl fun a h => ?_
 refine st_g h rfl rfl (gF rfl) rfl rfl (fun e0 => v_fieldAddr rfl underlying40 rfl sizeOf3 rfl rfl) fun a h => ?_
 refine st_g h rfl rfl (gF rfl) rfl rfl (fun e0 => v_load1 (eg e0 rfl) isAgg3 (H.hp.get 6 rfl) rfl) fun a h => ?_
 refine st_g h rfl rfl (gF rfl) rfl rfl (fun e0 => v_fieldAddr rfl underlying40 rfl sizeOf3 rfl rfl) fun a h => ?_
 refine st_g h rfl rfl (gF rfl) rfl rfl (fun e0 => v_load1 (eg e0 rfl) isAgg3 (H.hp.get 5 rfl) rfl) fun a h => ?_
 obtain ⟨z82, e82, hS⟩ := bv hS
 refine st_g h rfl rfl (gF rfl) rfl rfl (fun e0 => vI e82 (v_subw (eg e0 rfl) (eg e0 rfl))) fun a h => ?_
 refine st_g h rfl rfl (gF rfl) rfl rfl (fun e0 => v_fieldAddr rfl underlying40 rfl sizeOf3 rfl rfl) fun a h => ?_
 refine st_g h rfl rfl (gF rfl) rfl rfl (fun e0 => v_load1 (eg e0 rfl) isAgg3 (H.hp.get 8 rfl) rfl) fun a h => ?_
 refine st_g h rfl rfl (gF rfl) rfl rfl (fun e0 => v_fieldAddr rfl underlying40 rfl sizeOf3 rfl rfl) fun a h => ?_
 refine st_g h rfl rfl (gF rfl) rfl rfl (fun e0 => v_load1 (eg e0 rfl) isAgg3 (H.hp.get 7 rfl) rfl) fun a h => ?_
 obtain ⟨z83, e83, hS⟩ := bv hS
 refine st_g h rfl rfl (gF rfl) rfl rfl (fun e0 => vI e83 (v_subw (eg e0 rfl) (eg e0 rfl))) fun a h => ?_
 obtain ⟨z84, e84, hS⟩ := bv hS
 refine st_g h rfl rfl (gF rfl) rfl rfl (fun e0 => vB e84 (v_ne (eg e0 rfl) (eg e0 rfl))) fun a h => ?_
 refine sB h hS rfl (v_or rfl rfl) fun z85 e85 hS a h => ?_
 refine cN k h [4, 5, 6, 15, 16, 18, 121] [_, _, _, _, _, _, _] fun h => ?_
 refine cI h hS rfl (fun ec86 hS => ?_) fun ec86 hS => ?_
 refine rg fun K k => ?_
 refine zS h H 1 sizeOf25 [_] [_] [_, _, _, _, _, _, _, _, _] fun w H => ?_
 refine zS h H 2 sizeOf4 [_] [_] [_, _, _, _, _, _, _, _, _] fun w H => ?_
 refine cN k h [4, 5] [_, _] fun h => ?_
 cases hS
 refine c_ret (hr _ _ (outM h H dz fun a w less H h => ?_))
 have el4 := el4.subC less
 have rp0 := rp0.subC less
 refine out2 h rfl (rv1 H 1 isAgg25) (rv1 H 2 isAgg4) ⟨_, rfl, RdN.nil, H.out⟩
 exact nomatch hS
 refine rg fun K k => ?_
 refine zS h H 1 sizeOf25 [_] [_] [_, _, _, _, _] fun w H => ?_
 refine zS h H 2 sizeOf4 [_] [_] [_, _, _, _, _] fun w H => ?_
 refine cN k h [4, 5] [_, _] fun h => ?_
 cases hS
 refine c_ret (hr _ _ (outM h H dz fun a w less H h => ?_))
 have el4 := el4.subC less
 have rp0 := rp0.subC less
 refine out2 h rfl (rv1 H 1 isAgg25) (rv1 H 2 isAgg4) ⟨_, rfl, RdN.nil, H.out⟩

theorem poly_Of_B_ok {rec : Nd → (List V) → Option ((List (T)) × Bool)} (hrec : ∀ {x0 : Nd} {x1 : List V} {res : (List (T)) × Bool} {w0 : World} (hS : rec x0 x1 = some res) {Z : FZ} (hZ : Z.inn w0) {xv0 : Value} (rp0 : RdN Z xv0 nodeEnc x0.l) {pb1 : Nat} (hp1 : Z pb1 = some (Cel ((x1 : List V).flatMap vL) 58)) (lp1 : x1.length = 128) (hG : GW w0), Calls Tryd.prog 26 [.agg #[.int .i64 x0.k, .int .i64 x0.op, .int .i64 x0.v.k, .int .i64 x0.v.n, S x0.v.s, .int .i64 x0.a.c.s, .int .i64 x0.a.c.c, .int .i64 x0.a.c.r, .bool x0.a.ac, .bool x0.a.ar, .int .i64 x0.b.c.s, .int .i64 x0.b.c.c, .int .i64 x0.b.c.r, .bool x0.b.ac, .bool x0.b.ar, S x0.nm, xv0], .iface 52 (.pointer (some ⟨pb1, 0, none⟩))].toArray w0 (Ret fun v w => ∃ u1, v = .tuple #[u1, .bool res.2] ∧ RdN (ZB Z w0.heap.size w) u1 termEnc res.1 ∧ Ext w0 w)) {x0 : Nd} {x1 : List V} {res : (List (T)) × Bool} {w0 : World} (hS : poly_Of_B rec x0 x1 = some res) {Z : FZ} (hZ : Z.inn w0) {xv0 : Value} (rp0 : RdN Z xv0 nodeEnc x0.l) {pb1 : Nat} (hp1 : Z pb1 = some (Cel ((x1 : List V).flatMap vL) 58)) (lp1 : x1.length = 128) (hG : GW w0) : Calls Tryd.prog 26 [.agg #[.int .i64 x0.k, .int .i64 x0.op, .int .i64 x0.v.k, .int .i64 x0.v.n, S x0.v.s, .int .i64 x0.a.c.s, .int .i64 x0.a.c.c, .int .i64 x0.a.c.r, .bool x0.a.ac, .bool x0.a.ar, .int .i64 x0.b.c.s, .int .i64 x0.b.c.c, .int .i64 x0.b.c.r, .bool x0.b.ac, .bool x0.b.ar, S x0.nm, xv0], .iface 52 (.pointer (some ⟨pb1, 0, none⟩))].toArray w0 (Ret fun v w => ∃ u1, v = .tuple #[u1, .bool res.2] ∧ RdN (ZB Z w0.heap.size w) u1 termEnc res.1 ∧ Ext w0 w) := by
 refine enS hZ func26 [0, 1] [_, _] fun Q a Zi eZi H h hr => ?_
 try rw [← eZi] at hr
 clear eZi
 unfold poly_Of_B at hS
 refine rg fun K k => ?_
 refine z_box h H rfl [_, _, _, _, _, _, _, _, _, _, _, _, _, _, _, _, _] rfl rfl fun a p1 w X H h => ?_
 have H : HZ w0 _ _ [_] _ := H
 refine cps 2 h rfl fun a h => ?_
 refine cz k ?_
 refine sq ?_
 refine rg fun K k => ?_
 refine s1 h rfl (v_fieldAddr rfl underlying64 rfl sizeOf3 rfl rfl) fun a h => ?_
 refine s1 h rfl (l1 H 0 isAgg3) fun a h => ?_
 refine cN k h [1, 2, 12] [_, _, _] fun h => ?_
 refine lb ?_
 refine rg fun K k => ?_
 refine sB h hS rfl (v_eq rfl rfl) fun z4 e4 hS a h => ?_
 refine cps 1 h rfl fun a h => ?_
 refine cz k ?_
 refine cI h hS rfl (fun ec5 hS => ?_) fun ec5 hS => ?_
 refine rg fun K k => ?_
 refine s1 h rfl (v_fieldAddr rfl underlying64 rfl sizeOf54 rfl rfl) fun a h => ?_
 refine s1 h rfl (v_fieldAddr rfl underlying54 rfl sizeOf2 rfl rfl) fun a h => ?_
 refine s1 h rfl (l1 H 0 isAgg2) fun a h => ?_
 refine sC h H hS rfl (fun y6 f6 => dC call46 (num_Whole_ok f6 :)) fun y6 hS w X H a h => ?_
 refine cps 5 h rfl fun a h => ?_
 refine cN k h [2, 6, 7] [_, _, _] fun h => ?_
 refine sq ?_
 refine rg fun K k => ?_
 refine s1 h rfl (v_fieldAddr rfl underlying64 rfl sizeOf54 rfl rfl) fun a h => ?_
 refine s1 h rfl (v_fieldAddr rfl underlying54 rfl sizeOf3 rfl rfl) fun a h => ?_
 refine s1 h rfl (l1 H 0 isAgg3) fun a h => ?_
 refine sB h hS rfl (v_ne rfl rfl) fun z8 e8 hS a h => ?_
 refine cps 1 h rfl fun a h => ?_
 refine st_g h rfl rfl (gF rfl) rfl rfl (fun e0 => v_move rfl) fun a h => ?_
 obtain ⟨z9, e9, hS⟩ := bv hS
 refine st_g h rfl rfl (gF rfl) rfl rfl (fun e0 => vB e9 (v_not (eg e0 rfl))) fun a h => ?_
 refine sB h hS rfl (v_or rfl rfl) fun z10 e10 hS a h => ?_
 refine cN k h [6, 29] [_, _] fun h => ?_
 refine cI h hS rfl (fun ec11 hS => ?_) fun ec11 hS => ?_
 refine rg fun K k => ?_
 refine cps 2 h rfl fun a h => ?_
 refine cz k ?_
 cases hS
 refine r2 hr h rfl rfl rfl ⟨_, rfl, RdN.nil, H.out⟩
 refine c_skip ?_
 refine rg fun K k => ?_
 refine cps 1 h rfl fun a h => ?_
 obtain ⟨y12, f12, hS⟩ := bo hS
 refine st2 h rfl rfl rfl (dC call16 (poly_Const_ok (x0 := y6.1) f12 H.zin)) ?_
 rintro v_ w ⟨v31_13_1, rfl, r31_13_1, X⟩ a h
 obtain ⟨Z, hsub, hadd, H⟩ := H.adopt' X
 have rp0 := rp0.sub hsub
 have hp1 := hsub _ _ hp1
 have r31_13_1 := r31_13_1.sub hadd
 refine cps 4 h rfl fun a h => ?_
 refine cN k h [4, 5] [_, _] fun h => ?_
 cases hS
 refine r2 hr h rfl rfl rfl ⟨_, rfl, r31_13_1.sub H.back, H.out⟩
 obtain ⟨J15, eJ15, hS⟩ := bv hS
 refine sqJ (fun a w => ∃ (Z : FZ) (s15 : Bool), J15 s15 = some res ∧ Fr 68 [(1, .iface 52 (.pointer (some ⟨pb1, 0, none⟩))), (2, .pointer (some ⟨p1, 0, none⟩)), (12, .int .i64 x0.k), (34, .bool s15)] a ∧ HZ w0 Zi Z [.blk p1 (Cel [.int .i64 x0.k, .int .i64 x0.op, .int .i64 x0.v.k, .int .i64 x0.v.n, S x0.v.s, .int .i64 x0.a.c.s, .int .i64 x0.a.c.c, .int .i64 x0.a.c.r, .bool x0.a.ac, .bool x0.a.ar, .int .i64 x0.b.c.s, .int .i64 x0.b.c.c, .int .i64 x0.b.c.r, .bool x0.b.ac, .bool x0.b.ar, S x0.nm, xv0] 64)] w ∧ RdN Z xv0 nodeEnc x0.l ∧ Z pb1 = some (Cel ((x1 : List V).flatMap vL) 58)) ?_ ?_
 rintro a w ⟨Z, s15, hS, h, H, rp0, hp1⟩
 subst eJ15
 refine cI h hS rfl (fun ec16 hS => ?_) fun ec16 hS => ?_
 refine rg fun K k => ?_
 refine cps 1 h rfl fun a h => ?_
 refine s1 h rfl (lA H 0 isAgg64 sizeOf64 [_, _, _, _, _, _, _, _, _, _, _, _, _, _, _, _, _]) fun a h => ?_
 obtain ⟨y17, f17, hS⟩ := bo hS
 refine st2v (T := Ext) (V := .tuple #[.agg #[.int .i64 y17.1.s, .int .i64 y17.1.c, .int .i64 y17.1.r], .agg #[.int .i64 y17.2.1.s, .int .i64 y17.2.1.c, .int .i64 y17.2.1.r], .bool y17.2.2]) h rfl rfl rfl (dC call47 (eval_Area_ok f17 H.zin rp0 hp1 lp1)) fun w X a h => ?_
 have H := H.ext X
 refine cps 4 h rfl fun a h => ?_
 refine zA h H zeroValue40 [_, _, _] (fun x => [_, x]) fun a p18 w X H h => ?_
 refine zA h H zeroValue40 [_, _, _] (fun x => [_, _, x]) fun a p19 w X H h => ?_
 refine zS h H 1 sizeOf40 [_, _, _] [_, _, _] [_, _, _] fun w H => ?_
 refine zS h H 2 sizeOf40 [_, _, _] [_, _, _] [_, _, _] fun w H => ?_
 refine cps 1 h rfl fun a h => ?_
 refine cN k h [8, 9, 10] [_, _, _] fun h => ?_
 refine sq ?_
 refine rg fun K k => ?_
 refine cps 1 h rfl fun a h => ?_
 refine sB h hS rfl (v_not rfl) fun z21 e21 hS a h => ?_
 refine cps 1 h rfl fun a h => ?_
 refine st_g h rfl rfl (gF rfl) rfl rfl (fun e0 => lA H 1 isAgg40 sizeOf40 [_, _, _]) fun a h => ?_
 refine st_g h rfl rfl (gF rfl) rfl rfl (fun e0 => lA H 2 isAgg40 sizeOf40 [_, _, _]) fun a h => ?_
 obtain ⟨z22, e22, hS⟩ := bv hS
 refine st_g h rfl rfl (gF rfl) rfl rfl (fun e0 => vB e22 (v_aggne (eg e0 rfl) (eg e0 rfl) age40 (agq40 _ _ _ _ _ _))) fun a h => ?_
 refine sB h hS rfl (v_or rfl rfl) fun z23 e23 hS a h => ?_
 refine cN k h [8, 51] [_, _] fun h => ?_
 refine cI h hS rfl (fun ec24 hS => ?_) fun ec24 hS => ?_
 refine rg fun K k => ?_
 refine cps 2 h rfl fun a h => ?_
 refine cz k ?_
 cases hS
 refine r2 hr h rfl rfl rfl ⟨_, rfl, RdN.nil, H.out⟩
 refine c_skip ?_
 refine rg fun K k => ?_
 refine s1 h rfl (lA H 1 isAgg40 sizeOf40 [_, _, _]) fun a h => ?_
 obtain ⟨y25, f25, hS⟩ := bo hS
 refine st2 h rfl rfl rfl (dC call17 (poly_Var_ok (x0 := y17.1) f25 H.zin)) ?_
 rintro v53_27_1 w ⟨r53_27_1, X⟩ a h
 obtain ⟨Z, hsub, hadd, H⟩ := H.adopt' X
 have rp0 := rp0.sub hsub
 have hp1 := hsub _ _ hp1
 have r53_27_1 := r53_27_1.sub hadd
 refine cps 2 h rfl fun a h => ?_
 refine cN k h [4, 5] [_, _] fun h => ?_
 cases hS
 refine r2 hr h rfl rfl rfl ⟨_, rfl, r53_27_1.sub H.back, H.out⟩
 refine rg fun K k => ?_
 refine sB h hS rfl (v_eq rfl rfl) fun z28 e28 hS a h => ?_
 refine cps 1 h rfl fun a h => ?_
 refine cz k ?_
 refine cI h hS rfl (fun ec29 hS => ?_) fun ec29 hS => ?_
 refine rg fun K k => ?_
 refine s1 h rfl (lA H 0 isAgg64 sizeOf64 [_, _, _, _, _, _, _, _, _, _, _, _, _, _, _, _, _]) fun a h => ?_
 refine cps 1 h rfl fun a h => ?_
 obtain ⟨y30, f30, hS⟩ := bo hS
 refine st2 h rfl rfl rfl (dC call48 (poly_binary_ok hrec f30 H.zin rp0 hp1 lp1 (hG.ext H.out))) ?_
 rintro v_ w ⟨v58_31_1, rfl, r58_31_1, X⟩ a h
 obtain ⟨Z, hsub, hadd, H⟩ := H.adopt' X
 have rp0 := rp0.sub hsub
 have hp1 := hsub _ _ hp1
 have r58_31_1 := r58_31_1.sub hadd
 refine cps 4 h rfl fun a h => ?_
 refine cN k h [4, 5] [_, _] fun h => ?_
 cases hS
 refine r2 hr h rfl rfl rfl ⟨_, rfl, r58_31_1.sub H.back, H.out⟩
 refine rg fun K k => ?_
 refine sB h hS rfl (v_eq rfl rfl) fun z32 e32 hS a h => ?_
 refine cps 1 h rfl fun a h => ?_
 refine cN k h [1, 2, 61] [_, _, _] fun h => ?_
 refine cI h hS rfl (fun ec33 hS => ?_) fun ec33 hS => ?_
 refine rg fun K k => ?_
 refine s1 h rfl (lA H 0 isAgg64 sizeOf64 [_, _, _, _, _, _, _, _, _, _, _, _, _, _, _, _, _]) fun a h => ?_
 refine cps 1 h rfl fun a h => ?_
 obtain ⟨y34, f34, hS⟩ := bo hS
 refine st2 h rfl rfl rfl (dC call49 (poly_call_ok hrec f34 H.zin rp0 hp1 lp1 (hG.ext H.out))) ?_
 rintro v_ w ⟨v65_35_1, rfl, r65_35_1, X⟩ a h
 obtain ⟨Z, hsub, hadd, H⟩ := H.adopt' X
 have rp0 := rp0.sub hsub
 have hp1 := hsub _ _ hp1
 have r65_35_1 := r65_35_1.sub hadd
 refine cps 4 h rfl fun a h => ?_
 refine cN k h [4, 5] [_, _] fun h => ?_
 cases hS
 refine r2 hr h rfl rfl rfl ⟨_, rfl, r65_35_1.sub H.back, H.out⟩
 refine c_skip ?_
 refine rg fun K k => ?_
 refine cps 2 h rfl fun a h => ?_
 refine cz k ?_
 cases hS
 refine r2 hr h rfl rfl rfl ⟨_, rfl, RdN.nil, H.out⟩
 refine rg fun K k => ?_
 refine sB h hS rfl (v_eq rfl rfl) fun z36 e36 hS a h => ?_
 refine cps 1 h rfl fun a h => ?_
 refine cz k ?_
 refine cI h hS rfl (fun ec37 hS => ?_) fun ec37 hS => ?_
 exact c_skip (ex2 ⟨hS, h.to, H, rp0, hp1⟩)
 refine rg fun K k => ?_
 refine sB h hS rfl (v_eq rfl rfl) fun z38 e38 hS a h => ?_
 refine cps 1 h rfl fun a h => ?_
 refine cN k h [1, 2, 12, 34] [_, _, _, _] fun h => ?_
 refine cI h hS rfl (fun ec39 hS => ?_) fun ec39 hS => ?_
 exact c_skip (ex2 ⟨hS, h.to, H, rp0, hp1⟩)
 refine c_lregion ?_
 refine sB h hS rfl (v_eq rfl rfl) fun z40 e40 hS a h => ?_
 refine cps 1 h rfl fun a h => ?_
 refine c_lnil ?_
 exact ex2 ⟨hS, h.to, H, rp0, hp1⟩
theorem poly_Of_ok (k : Nat) : ∀ {x0 : Nd} {x1 : List V} {res : (List (T)) × Bool} {w0 : World} (hS : poly_Of k x0 x1 = some res) {Z : FZ} (hZ : Z.inn w0) {xv0 : Value} (rp0 : RdN Z xv0 nodeEnc x0.l) {pb1 : Nat} (hp1 : Z pb1 = some (Cel ((x1 : List V).flatMap vL) 58)) (lp1 : x1.length = 128) (hG : GW w0), Calls Tryd.prog 26 [.agg #[.int .i64 x0.k, .int .i64 x0.op, .int .i64 x0.v.k, .int .i64 x0.v.n, S x0.v.s, .int .i64 x0.a.c.s, .int .i64 x0.a.c.c, .int .i64 x0.a.c.r, .bool x0.a.ac, .bool x0.a.ar, .int .i64 x0.b.c.s, .int .i64 x0.b.c.c, .int .i64 x0.b.c.r, .bool x0.b.ac, .bool x0.b.ar, S x0.nm, xv0], .iface 52 (.pointer (some ⟨pb1, 0, none⟩))].toArray w0 (Ret fun v w => ∃ u1, v = .tuple #[u1, .bool res.2] ∧ RdN (ZB Z w0.heap.size w) u1 termEnc res.1 ∧ Ext w0 w) := by
 induction k with
 | zero => intro x0 x1 res w0 hS; exact nomatch (show (none : Option ((List (T)) × Bool)) = some res from hS)
 | succ k ih => exact @poly_Of_B_ok (poly_Of k) @ih
end Go.Proofs.YtlpfcclecmalhaaDoor
