/- Joined texts. -/
import Derived.Test.YtcecjdnkcbfhlaaGreatDoorQS0
import Derived.Test.YtcecjdnkcbfhlaaGreatDoorQpFG
import Derived.Test.YtcecjdnkcbfhlaaGreatDoorQpWkB
set_option linter.unusedSimpArgs false
set_option linter.unusedVariables false
set_option linter.unusedSectionVars false
namespace Go.Proofs.YtcecjdnkcbfhlaaGreatDoor
open Go.Stp Go.RowKit Go.ValP Go.Sp _root_.Go.Proofs.Tryz
set_option maxRecDepth 100000
theorem tree_Value_ok {x0 : V} {res : Nd} {w0 : World} (hS : tree_Value x0 = some res) : Calls Tryz.prog 32 [.agg #[.int .i64 x0.k, .int .i64 x0.n, S x0.s]].toArray w0 (Ret fun v w => ∃ u1, v = .agg #[.int .i64 res.k, .int .i64 res.op, .int .i64 res.v.k, .int .i64 res.v.n, S res.v.s, .int .i64 res.a.c.s, .int .i64 res.a.c.c, .int .i64 res.a.c.r, .bool res.a.ac, .bool res.a.ar, .int .i64 res.b.c.s, .int .i64 res.b.c.c, .int .i64 res.b.c.r, .bool res.b.ac, .bool res.b.ar, S res.nm, u1] ∧ RdN (ZB Z0 w0.heap.size w) u1 nodeEnc res.l ∧ Ext w0 w) := by
 refine en func32 [0] [_] fun Q a Zi Z hzs H h hr => ?_
 clear hzs
 unfold tree_Value at hS
 refine rg fun K k => ?_
 refine z_box h H rfl [_, _, _] rfl rfl fun a p1 w X H h => ?_
 have H : HZ w0 _ _ [_] _ := H
 refine zA h H zeroValue33 [_, _, _, _, _, _, _, _, _, _, _, _, _, _, _, _, _] (fun x => [_, x]) fun a p2 w X H h => ?_
 refine cz k ?_
 refine rg fun K k => ?_
 refine s1 h rfl (lA H 0 isAgg26 sizeOf26 [_, _, _]) fun a h => ?_
 refine s1 h rfl (v_build bld33 [_, _] [_, _, _, _, _, _, _, _, _, _, _, _, _, _, _, _, _] rfl rfl) fun a h => ?_
 refine zS h H 1 sizeOf33 [_, _, _, _, _, _, _, _, _, _, _, _, _, _, _, _, _] [_, _, _, _, _, _, _, _, _, _, _, _, _, _, _, _, _] [_, _] fun w H => ?_
 refine cN k h [2] [_] fun h => ?_
 cases hS
 refine r1 hr h rfl (rvA H 1 isAgg33 sizeOf33 [_, _, _, _, _, _, _, _, _, _, _, _, _, _, _, _, _]) ⟨_, rfl, RdN.nil, H.out⟩
theorem tree_Cell_ok {x0 : Rf} {res : Nd} {w0 : World} (hS : tree_Cell x0 = some res) : Calls Tryz.prog 25 [.agg #[.int .i64 x0.c.s, .int .i64 x0.c.c, .int .i64 x0.c.r, .bool x0.ac, .bool x0.ar]].toArray w0 (Ret fun v w => ∃ u1, v = .agg #[.int .i64 res.k, .int .i64 res.op, .int .i64 res.v.k, .int .i64 res.v.n, S res.v.s, .int .i64 res.a.c.s, .int .i64 res.a.c.c, .int .i64 res.a.c.r, .bool res.a.ac, .bool res.a.ar, .int .i64 res.b.c.s, .int .i64 res.b.c.c, .int .i64 res.b.c.r, .bool res.b.ac, .bool res.b.ar, S res.nm, u1] ∧ RdN (ZB Z0 w0.heap.size w) u1 nodeEnc res.l ∧ Ext w0 w) := by
 refine en func25 [0] [_] fun Q a Zi Z hzs H h hr => ?_
 clear hzs
 unfold tree_Cell at hS
 refine rg fun K k => ?_
 refine z_box h H rfl [_, _, _, _, _] rfl rfl fun a p1 w X H h => ?_
 have H : HZ w0 _ _ [_] _ := H
 refine zA h H zeroValue33 [_, _, _, _, _, _, _, _, _, _, _, _, _, _, _, _, _] (fun x => [_, x]) fun a p2 w X H h => ?_
 refine cz k ?_
 refine rg fun K k => ?_
 refine s1 h rfl (lA H 0 isAgg30 sizeOf30 [_, _, _, _, _]) fun a h => ?_
 refine s1 h rfl (v_build bld33 [_, _] [_, _, _, _, _, _, _, _, _, _, _, _, _, _, _, _, _] rfl rfl) fun a h => ?_
 refine zS h H 1 sizeOf33 [_, _, _, _, _, _, _, _, _, _, _, _, _, _, _, _, _] [_, _, _, _, _, _, _, _, _, _, _, _, _, _, _, _, _] [_, _] fun w H => ?_
 refine cN k h [2] [_] fun h => ?_
 cases hS
 refine r1 hr h rfl (rvA H 1 isAgg33 sizeOf33 [_, _, _, _, _, _, _, _, _, _, _, _, _, _, _, _, _]) ⟨_, rfl, RdN.nil, H.out⟩
theorem tree_Apply_ok {x0 : Int} {x1 : List (Nd)} {res : Nd} {w0 : World} (hS : tree_Apply x0 x1 = some res) {Z : FZ} (hZ : Z.inn w0) {xv1 : Value} (rp1 : RdN Z xv1 nodeEnc x1) : Calls Tryz.prog 26 [.int .i64 x0, xv1].toArray w0 (Ret fun v w => ∃ u1, v = .agg #[.int .i64 res.k, .int .i64 res.op, .int .i64 res.v.k, .int .i64 res.v.n, S res.v.s, .int .i64 res.a.c.s, .int .i64 res.a.c.c, .int .i64 res.a.c.r, .bool res.a.ac, .bool res.a.ar, .int .i64 res.b.c.s, .int .i64 res.b.c.c, .int .i64 res.b.c.r, .bool res.b.ac, .bool res.b.ar, S res.nm, u1] ∧ RdN (ZB Z w0.heap.size w) u1 nodeEnc res.l ∧ Ext w0 w) := by
 refine enS hZ func26 [0, 1] [_, _] fun Q a Zi eZi H h hr => ?_
 try rw [← eZi] at hr
 clear eZi
 unfold tree_Apply at hS
 refine rg fun K k => ?_
 refine zA h H zeroValue33 [_, _, _, _, _, _, _, _, _, _, _, _, _, _, _, _, _] (fun x => [x]) fun a p1 w X H h => ?_
 refine cz k ?_
 refine rg fun K k => ?_
 refine cps 2 h rfl fun a h => ?_
 have H := H.nilRow 33 17 rfl
 have H : HZ w0 _ _ [_, _] _ := H
 have el1 : EL nodeEnc Z ([] : List (Cl 17)) ([] : List (Nd)) := trivial
 obtain ⟨c3, hS⟩ := ck hS
 obtain ⟨z4, e4, hS⟩ := bv hS
 obtain ⟨cy_2, ry_2, ey_2⟩ := id rp1
 refine z_appendS (enc := (Subtype.val (p := fun l : List Value => l.length = 17))) (out := ([] : List (Cl 17))) (data := cy_2) h H 1 rfl underlying31 app33 rfl rfl rfl ry_2 (fun c => c.2) ey_2.one (bnd el1.len ey_2.len c3) rfl fun a v7_2 w H h => ?_
 have el1 := EL.append el1 ey_2
 rw [← e4] at el1
 have el1 : EL nodeEnc Z (List.append (α := Cl 17) ([] : List (Cl 17)) cy_2) z4 := el1
 have H : HZ w0 _ _ [_, _] _ := H
 obtain ⟨Z, hsub, H, rz1_5⟩ := H.freezeRowN (E := nodeEnc) 1 rfl el1
 have rp1 := rp1.sub hsub
 have H : HZ w0 _ _ [_, _] _ := H
 refine s1 h rfl (v_build bld33 [.int .i64 8, .int .i64 x0, v7_2] [.int .i64 8, .int .i64 x0, .int .i64 0, .int .i64 0, S [], .int .i64 0, .int .i64 0, .int .i64 0, .bool false, .bool false, .int .i64 0, .int .i64 0, .int .i64 0, .bool false, .bool false, S [], v7_2] rfl (by obtain ⟨_, _, _, e_⟩ := (rz1_5).form; subst e_; rfl)) fun a h => ?_
 refine z_store h H 0 rfl rfl rfl sizeOf33 [_, _, _, _, _, _, _, _, _, _, _, _, _, _, _, _, _] rfl rfl (by obtain ⟨_, _, _, e_⟩ := (rz1_5).form; subst e_; rfl) (by simp) [_, _, _, _, _, _, _, _, _, _, _, _, _, _, _, _, _] rfl (hl' := [_, _]) rfl fun w H => ?_
 refine cN k h [4] [_] fun h => ?_
 cases hS
 refine r1 hr h rfl (rvA H 0 isAgg33 sizeOf33 [_, _, _, _, _, _, _, _, _, _, _, _, _, _, _, _, _]) ⟨_, rfl, rz1_5.sub H.back, H.out⟩
theorem tree_Unary_ok {x0 : Int} {x1 : Nd} {res : Nd} {w0 : World} (hS : tree_Unary x0 x1 = some res) {Z : FZ} (hZ : Z.inn w0) {xv1 : Value} (rp1 : RdN Z xv1 nodeEnc x1.l) : Calls Tryz.prog 48 [.int .i64 x0, .agg #[.int .i64 x1.k, .int .i64 x1.op, .int .i64 x1.v.k, .int .i64 x1.v.n, S x1.v.s, .int .i64 x1.a.c.s, .int .i64 x1.a.c.c, .int .i64 x1.a.c.r, .bool x1.a.ac, .bool x1.a.ar, .int .i64 x1.b.c.s, .int .i64 x1.b.c.c, .int .i64 x1.b.c.r, .bool x1.b.ac, .bool x1.b.ar, S x1.nm, xv1]].toArray w0 (Ret fun v w => ∃ u1, v = .agg #[.int .i64 res.k, .int .i64 res.op, .int .i64 res.v.k, .int .i64 res.v.n, S res.v.s, .int .i64 res.a.c.s, .int .i64 res.a.c.c, .int .i64 res.a.c.r, .bool res.a.ac, .bool res.a.ar, .int .i64 res.b.c.s, .int .i64 res.b.c.c, .int .i64 res.b.c.r, .bool res.b.ac, .bool res.b.ar, S res.nm, u1] ∧ RdN (ZB Z w0.heap.size w) u1 nodeEnc res.l ∧ Ext w0 w) := by
 refine enS hZ func48 [0, 1] [_, _] fun Q a Zi eZi H h hr => ?_
 try rw [← eZi] at hr
 clear eZi
 unfold tree_Unary at hS
 refine rg fun K k => ?_
 refine z_box h H rfl [_, _, _, _, _, _, _, _, _, _, _, _, _, _, _, _, _] rfl rfl fun a p1 w X H h => ?_
 have H : HZ w0 _ _ [_] _ := H
 refine zA h H zeroValue33 [_, _, _, _, _, _, _, _, _, _, _, _, _, _, _, _, _] (fun x => [_, x]) fun a p2 w X H h => ?_
 refine cz k ?_
 refine rg fun K k => ?_
 refine cps 1 h rfl fun a h => ?_
 refine s1 h rfl (lA H 0 isAgg33 sizeOf33 [_, _, _, _, _, _, _, _, _, _, _, _, _, _, _, _, _]) fun a h => ?_
 refine z_slice (enc := (Subtype.val (p := fun l : List Value => l.length = 17))) ([⟨[.int .i64 x1.k, .int .i64 x1.op, .int .i64 x1.v.k, .int .i64 x1.v.n, S x1.v.s, .int .i64 x1.a.c.s, .int .i64 x1.a.c.c, .int .i64 x1.a.c.r, .bool x1.a.ac, .bool x1.a.ar, .int .i64 x1.b.c.s, .int .i64 x1.b.c.c, .int .i64 x1.b.c.r, .bool x1.b.ac, .bool x1.b.ar, S x1.nm, xv1], rfl⟩] : List (Cl 17)) h H underlying31 sizeOf33 zeroValue33 rfl (zl := [.int .i64 0, .int .i64 0, .int .i64 0, .int .i64 0, S [], .int .i64 0, .int .i64 0, .int .i64 0, .bool false, .bool false, .int .i64 0, .int .i64 0, .int .i64 0, .bool false, .bool false, S [], .slice none 0 0]) (by kernel_rfl) (plA_get 1 17) [_] [_, _, _, _, _, _, _, _, _, _, _, _, _, _, _, _, _] rfl rfl rfl rfl rfl fun a v7_3 Z w hsub X H r7_3 h => ?_
 have rp1 := rp1.sub hsub
 have r7_3 : RdN Z v7_3 nodeEnc [x1] := ⟨_, r7_3, ⟨node_mk ⟨_, rfl, rp1⟩, trivial⟩⟩
 refine s1 h rfl (v_build bld33 [.int .i64 x0, v7_3] [.int .i64 x0, .int .i64 0, .int .i64 0, .int .i64 0, S [], .int .i64 0, .int .i64 0, .int .i64 0, .bool false, .bool false, .int .i64 0, .int .i64 0, .int .i64 0, .bool false, .bool false, S [], v7_3] rfl (by obtain ⟨_, _, _, e_⟩ := (r7_3).form; subst e_; rfl)) fun a h => ?_
 refine z_store h H 1 rfl rfl rfl sizeOf33 [_, _, _, _, _, _, _, _, _, _, _, _, _, _, _, _, _] rfl rfl (by obtain ⟨_, _, _, e_⟩ := (r7_3).form; subst e_; rfl) (by simp) [_, _, _, _, _, _, _, _, _, _, _, _, _, _, _, _, _] rfl (hl' := [_, _]) rfl fun w H => ?_
 refine cN k h [4] [_] fun h => ?_
 cases hS
 refine r1 hr h rfl (rvA H 1 isAgg33 sizeOf33 [_, _, _, _, _, _, _, _, _, _, _, _, _, _, _, _, _]) ⟨_, rfl, r7_3.sub H.back, H.out⟩
theorem tree_Binary_ok {x0 : Int} {x1 : Nd} {x2 : Nd} {res : Nd} {w0 : World} (hS : tree_Binary x0 x1 x2 = some res) {Z : FZ} (hZ : Z.inn w0) {xv1 : Value} (rp1 : RdN Z xv1 nodeEnc x1.l) {xv2 : Value} (rp2 : RdN Z xv2 nodeEnc x2.l) : Calls Tryz.prog 36 [.int .i64 x0, .agg #[.int .i64 x1.k, .int .i64 x1.op, .int .i64 x1.v.k, .int .i64 x1.v.n, S x1.v.s, .int .i64 x1.a.c.s, .int .i64 x1.a.c.c, .int .i64 x1.a.c.r, .bool x1.a.ac, .bool x1.a.ar, .int .i64 x1.b.c.s, .int .i64 x1.b.c.c, .int .i64 x1.b.c.r, .bool x1.b.ac, .bool x1.b.ar, S x1.nm, xv1], .agg #[.int .i64 x2.k, .int .i64 x2.op, .int .i64 x2.v.k, .int .i64 x2.v.n, S x2.v.s, .int .i64 x2.a.c.s, .int .i64 x2.a.c.c, .int .i64 x2.a.c.r, .bool x2.a.ac, .bool x2.a.ar, .int .i64 x2.b.c.s, .int .i64 x2.b.c.c, .int .i64 x2.b.c.r, .bool x2.b.ac, .bool x2.b.ar, S x2.nm, xv2]].toArray w0 (Ret fun v w => ∃ u1, v = .agg #[.int .i64 res.k, .int .i64 res.op, .int .i64 res.v.k, .int .i64 res.v.n, S res.v.s, .int .i64 res.a.c.s, .int .i64 res.a.c.c, .int .i64 res.a.c.r, .bool res.a.ac, .bool res.a.ar, .int .i64 res.b.c.s, .int .i64 res.b.c.c, .int .i64 res.b.c.r, .bool res.b.ac, .bool res.b.ar, S res.nm, u1] ∧ RdN (ZB Z w0.heap.size w) u1 nodeEnc res.l ∧ Ext w0 w) := by
 refine enS hZ func36 [0, 1, 2] [_, _, _] fun Q a Zi eZi H h hr => ?_
 try rw [← eZi] at hr
 clear eZi
 unfold tree_Binary at hS
 refine rg fun K k => ?_
 refine z_box h H rfl [_, _, _, _, _, _, _, _, _, _, _, _, _, _, _, _, _] rfl rfl fun a p1 w X H h => ?_
 have H : HZ w0 _ _ [_] _ := H
 refine z_box h H rfl [_, _, _, _, _, _, _, _, _, _, _, _, _, _, _, _, _] rfl rfl fun a p2 w X H h => ?_
 have H : HZ w0 _ _ [_, _] _ := H
 refine zA h H zeroValue33 [_, _, _, _, _, _, _, _, _, _, _, _, _, _, _, _, _] (fun x => [_, _, x]) fun a p3 w X H h => ?_
 refine cz k ?_
 refine rg fun K k => ?_
 refine cps 1 h rfl fun a h => ?_
 refine s1 h rfl (lA H 0 isAgg33 sizeOf33 [_, _, _, _, _, _, _, _, _, _, _, _, _, _, _, _, _]) fun a h => ?_
 refine s1 h rfl (lA H 1 isAgg33 sizeOf33 [_, _, _, _, _, _, _, _, _, _, _, _, _, _, _, _, _]) fun a h => ?_
 refine z_slice (enc := (Subtype.val (p := fun l : List Value => l.length = 17))) ([⟨[.int .i64 x1.k, .int .i64 x1.op, .int .i64 x1.v.k, .int .i64 x1.v.n, S x1.v.s, .int .i64 x1.a.c.s, .int .i64 x1.a.c.c, .int .i64 x1.a.c.r, .bool x1.a.ac, .bool x1.a.ar, .int .i64 x1.b.c.s, .int .i64 x1.b.c.c, .int .i64 x1.b.c.r, .bool x1.b.ac, .bool x1.b.ar, S x1.nm, xv1], rfl⟩, ⟨[.int .i64 x2.k, .int .i64 x2.op, .int .i64 x2.v.k, .int .i64 x2.v.n, S x2.v.s, .int .i64 x2.a.c.s, .int .i64 x2.a.c.c, .int .i64 x2.a.c.r, .bool x2.a.ac, .bool x2.a.ar, .int .i64 x2.b.c.s, .int .i64 x2.b.c.c, .int .i64 x2.b.c.r, .bool x2.b.ac, .bool x2.b.ar, S x2.nm, xv2], rfl⟩] : List (Cl 17)) h H underlying31 sizeOf33 zeroValue33 rfl (zl := [.int .i64 0, .int .i64 0, .int .i64 0, .int .i64 0, S [], .int .i64 0, .int .i64 0, .int .i64 0, .bool false, .bool false, .int .i64 0, .int .i64 0, .int .i64 0, .bool false, .bool false, S [], .slice none 0 0, .int .i64 0, .int .i64 0, .int .i64 0, .int .i64 0, S [], .int .i64 0, .int .i64 0, .int .i64 0, .bool false, .bool false, .int .i64 0, .int .i64 0, .int .i64 0, .bool false, .bool false, S [], .slice none 0 0]) (by kernel_rfl) (plA_get 2 17) [_, _] [_, _, _, _, _, _, _, _, _, _, _, _, _, _, _, _, _, _, _, _, _, _, _, _, _, _, _, _, _, _, _, _, _, _] rfl rfl rfl rfl rfl fun a v10_4 Z w hsub X H r10_4 h => ?_
 have rp1 := rp1.sub hsub
 have rp2 := rp2.sub hsub
 have r10_4 : RdN Z v10_4 nodeEnc [x1, x2] := ⟨_, r10_4, ⟨node_mk ⟨_, rfl, rp1⟩, node_mk ⟨_, rfl, rp2⟩, trivial⟩⟩
 refine s1 h rfl (v_build bld33 [.int .i64 7, .int .i64 x0, v10_4] [.int .i64 7, .int .i64 x0, .int .i64 0, .int .i64 0, S [], .int .i64 0, .int .i64 0, .int .i64 0, .bool false, .bool false, .int .i64 0, .int .i64 0, .int .i64 0, .bool false, .bool false, S [], v10_4] rfl (by obtain ⟨_, _, _, e_⟩ := (r10_4).form; subst e_; rfl)) fun a h => ?_
 refine z_store h H 2 rfl rfl rfl sizeOf33 [_, _, _, _, _, _, _, _, _, _, _, _, _, _, _, _, _] rfl rfl (by obtain ⟨_, _, _, e_⟩ := (r10_4).form; subst e_; rfl) (by simp) [_, _, _, _, _, _, _, _, _, _, _, _, _, _, _, _, _] rfl (hl' := [_, _, _]) rfl fun w H => ?_
 refine cN k h [6] [_] fun h => ?_
 cases hS
 refine r1 hr h rfl (rvA H 2 isAgg33 sizeOf33 [_, _, _, _, _, _, _, _, _, _, _, _, _, _, _, _, _]) ⟨_, rfl, r10_4.sub H.back, H.out⟩
theorem tree_Span_ok {x0 : Rf} {x1 : Rf} {res : Nd} {w0 : World} (hS : tree_Span x0 x1 = some res) : Calls Tryz.prog 35 [.agg #[.int .i64 x0.c.s, .int .i64 x0.c.c, .int .i64 x0.c.r, .bool x0.ac, .bool x0.ar], .agg #[.int .i64 x1.c.s, .int .i64 x1.c.c, .int .i64 x1.c.r, .bool x1.ac, .bool x1.ar]].toArray w0 (Ret fun v w => ∃ u1, v = .agg #[.int .i64 res.k, .int .i64 res.op, .int .i64 res.v.k, .int .i64 res.v.n, S res.v.s, .int .i64 res.a.c.s, .int .i64 res.a.c.c, .int .i64 res.a.c.r, .bool res.a.ac, .bool res.a.ar, .int .i64 res.b.c.s, .int .i64 res.b.c.c, .int .i64 res.b.c.r, .bool res.b.ac, .bool res.b.ar, S res.nm, u1] ∧ RdN (ZB Z0 w0.heap.size w) u1 nodeEnc res.l ∧ Ext w0 w) := by
 refine en func35 [0, 1] [_, _] fun Q a Zi Z hzs H h hr => ?_
 clear hzs
 unfold tree_Span at hS
 refine rg fun K k => ?_
 refine z_box h H rfl [_, _, _, _, _] rfl rfl fun a p1 w X H h => ?_
 have H : HZ w0 _ _ [_] _ := H
 refine z_box h H rfl [_, _, _, _, _] rfl rfl fun a p2 w X H h => ?_
 have H : HZ w0 _ _ [_, _] _ := H
 refine zA h H zeroValue33 [_, _, _, _, _, _, _, _, _, _, _, _, _, _, _, _, _] (fun x => [_, _, x]) fun a p3 w X H h => ?_
 refine cz k ?_
 refine rg fun K k => ?_
 refine s1 h rfl (lA H 0 isAgg30 sizeOf30 [_, _, _, _, _]) fun a h => ?_
 refine s1 h rfl (lA H 1 isAgg30 sizeOf30 [_, _, _, _, _]) fun a h => ?_
 refine s1 h rfl (v_build bld33 [_, _, _] [_, _, _, _, _, _, _, _, _, _, _, _, _, _, _, _, _] rfl rfl) fun a h => ?_
 refine zS h H 2 sizeOf33 [_, _, _, _, _, _, _, _, _, _, _, _, _, _, _, _, _] [_, _, _, _, _, _, _, _, _, _, _, _, _, _, _, _, _] [_, _, _] fun w H => ?_
 refine cN k h [4] [_] fun h => ?_
 cases hS
 refine r1 hr h rfl (rvA H 2 isAgg33 sizeOf33 [_, _, _, _, _, _, _, _, _, _, _, _, _, _, _, _, _]) ⟨_, rfl, RdN.nil, H.out⟩
theorem addr_Order_ok {x0 : C} {x1 : C} {res : C × C × Bool} {w0 : World} (hS : addr_Order x0 x1 = some res) : Calls Tryz.prog 77 [.agg #[.int .i64 x0.s, .int .i64 x0.c, .int .i64 x0.r], .agg #[.int .i64 x1.s, .int .i64 x1.c, .int .i64 x1.r]].toArray w0 (Ret fun v w => v = .tuple #[.agg #[.int .i64 res.1.s, .int .i64 res.1.c, .int .i64 res.1.r], .agg #[.int .i64 res.2.1.s, .int .i64 res.2.1.c, .int .i64 res.2.1.r], .bool res.2.2] ∧ Ext w0 w) := by
 refine en func77 [0, 1] [_, _] fun Q a Zi Z hzs H h hr => ?_
 clear hzs
 unfold addr_Order at hS
 refine rg fun K k => ?_
 refine z_box h H rfl [_, _, _] rfl rfl fun a p1 w X H h => ?_
 have H : HZ w0 _ _ [_] _ := H
 refine z_box h H rfl [_, _, _] rfl rfl fun a p2 w X H h => ?_
 have H : HZ w0 _ _ [_, _] _ := H
 refine zA h H zeroValue28 [_, _, _] (fun x => [_, _, x]) fun a p3 w X H h => ?_
 refine zA h H zeroValue28 [_, _, _] (fun x => [_, _, _, x]) fun a p4 w X H h => ?_
 refine cps 1 h rfl fun a h => ?_
 refine cz k ?_
 refine sq ?_
 refine rg fun K k => ?_
 refine s1 h rfl (v_fieldAddr rfl underlying28 rfl sizeOf3 rfl rfl) fun a h => ?_
 refine s1 h rfl (l1 H 0 isAgg3) fun a h => ?_
 refine s1 h rfl (v_fieldAddr rfl underlying28 rfl sizeOf3 rfl rfl) fun a h => ?_
 refine s1 h rfl (l1 H 1 isAgg3) fun a h => ?_
 refine sB h hS rfl (v_ne rfl rfl) fun z6 e6 hS a h => ?_
 refine cN k h [2, 3, 4, 5, 11] [_, _, _, _, _] fun h => ?_
 refine cI h hS rfl (fun ec7 hS => ?_) fun ec7 hS => ?_
 refine lt [2, 3] h H ?_
 refine L1 rfl (fun w X => have H := X; lA H 0 isAgg28 sizeOf28 [_, _, _]) ?_
 refine L1 rfl (fun w X => have H := X; lA H 1 isAgg28 sizeOf28 [_, _, _]) ?_
 refine LZ 2 sizeOf28 [_, _, _] [_, _, _] [_, _, _, _] ?_
 refine LZ 3 sizeOf28 [_, _, _] [_, _, _] [_, _, _, _] ?_
 refine lcps 1 rfl ?_
 refine lE [4, 5, 6] [_, _, _] fun a w H h => ?_
 have H : HZ w0 _ _ [_, _, _, _] _ := H
 cases hS
 refine r3 hr h rfl (rvA H 2 isAgg28 sizeOf28 [_, _, _]) (rvA H 3 isAgg28 sizeOf28 [_, _, _]) rfl ⟨rfl, H.out⟩
 refine c_skip ?_
 refine lt [2, 3] h H ?_
 refine L1 rfl (fun w X => v_fieldAddr rfl underlying28 rfl sizeOf3 rfl rfl) ?_
 refine L1 rfl (fun w X => have H := X; l1 H 0 isAgg3) ?_
 refine L1 rfl (fun w X => v_fieldAddr rfl underlying28 rfl sizeOf3 rfl rfl) ?_
 refine L1 rfl (fun w X => have H := X; l1 H 0 isAgg3) ?_
 refine L1 rfl (fun w X => v_fieldAddr rfl underlying28 rfl sizeOf3 rfl rfl) ?_
 refine L1 rfl (fun w X => have H := X; l1 H 1 isAgg3) ?_
 refine lI hS rfl (fun w X => v_min underlying3 rfl rfl) fun z8 e8 hS => ?_
 refine L1 rfl (fun w X => v_fieldAddr rfl underlying28 rfl sizeOf3 rfl rfl) ?_
 refine L1 rfl (fun w X => have H := X; l1 H 0 isAgg3) ?_
 refine L1 rfl (fun w X => v_fieldAddr rfl underlying28 rfl sizeOf3 rfl rfl) ?_
 refine L1 rfl (fun w X => have H := X; l1 H 1 isAgg3) ?_
 refine lI hS rfl (fun w X => v_min underlying3 rfl rfl) fun z9 e9 hS => ?_
 refine L1 rfl (fun w X => v_build bld28 [_, _, _] [_, _, _] rfl rfl) ?_
 refine L1 rfl (fun w X => v_fieldAddr rfl underlying28 rfl sizeOf3 rfl rfl) ?_
 refine L1 rfl (fun w X => have H := X; l1 H 0 isAgg3) ?_
 refine L1 rfl (fun w X => v_fieldAddr rfl underlying28 rfl sizeOf3 rfl rfl) ?_
 refine L1 rfl (fun w X => have H := X; l1 H 0 isAgg3) ?_
 refine L1 rfl (fun w X => v_fieldAddr rfl underlying28 rfl sizeOf3 rfl rfl) ?_
 refine L1 rfl (fun w X => have H := X; l1 H 1 isAgg3) ?_
 refine lI hS rfl (fun w X => v_max underlying3 rfl rfl) fun z10 e10 hS => ?_
 refine L1 rfl (fun w X => v_fieldAddr rfl underlying28 rfl sizeOf3 rfl rfl) ?_
 refine L1 rfl (fun w X => have H := X; l1 H 0 isAgg3) ?_
 refine L1 rfl (fun w X => v_fieldAddr rfl underlying28 rfl sizeOf3 rfl rfl) ?_
 refine L1 rfl (fun w X => have H := X; l1 H 1 isAgg3) ?_
 refine lI hS rfl (fun w X => v_max underlying3 rfl rfl) fun z11 e11 hS => ?_
 refine L1 rfl (fun w X => v_build bld28 [_, _, _] [_, _, _] rfl rfl) ?_
 refine LZ 2 sizeOf28 [_, _, _] [_, _, _] [_, _, _, _] ?_
 refine LZ 3 sizeOf28 [_, _, _] [_, _, _] [_, _, _, _] ?_
 refine lcps 1 rfl ?_
 refine lE [4, 5, 6] [_, _, _] fun a w H h => ?_
 have H : HZ w0 _ _ [_, _, _, _] _ := H
 cases hS
 refine r3 hr h rfl (rvA H 2 isAgg28 sizeOf28 [_, _, _]) (rvA H 3 isAgg28 sizeOf28 [_, _, _]) rfl ⟨rfl, H.out⟩
theorem reckonerref13_Place_At_ok {x0 : List V} {x1 : C} {res : V} {w0 : World} (hS : reckonerref13_Place_At x0 x1 = some res) {Z : FZ} (hZ : Z.inn w0) {pb0 : Nat} (hp0 : Z pb0 = some (Cel ((x0 : List V).flatMap vL) 39)) (lp0 : x0.length = 128) : Calls Tryz.prog 18 [.pointer (some ⟨pb0, 0, none⟩), .agg #[.int .i64 x1.s, .int .i64 x1.c, .int .i64 x1.r]].toArray w0 (Ret fun v w => v = .agg #[.int .i64 res.k, .int .i64 res.n, S res.s] ∧ Ext w0 w) := by
 refine enS hZ func18 [0, 1] [_, _] fun Q a Zi eZi H h hr => ?_
 try rw [← eZi] at hr
 clear eZi
 unfold reckonerref13_Place_At at hS
 refine rg fun K k => ?_
 refine z_box h H rfl [_, _, _] rfl rfl fun a p1 w X H h => ?_
 have H : HZ w0 _ _ [_] _ := H
 refine zA h H zeroValue26 [_, _, _] (fun x => [_, x]) fun a p2 w X H h => ?_
 refine cz k ?_
 refine sq ?_
 refine rg fun K k => ?_
 refine s1 h rfl (v_fieldAddr rfl underlying28 rfl sizeOf3 rfl rfl) fun a h => ?_
 refine s1 h rfl (l1 H 0 isAgg3) fun a h => ?_
 refine sB h hS rfl (v_lt rfl rfl) fun z4 e4 hS a h => ?_
 refine cps 1 h rfl fun a h => ?_
 refine st_g h rfl rfl (gF rfl) rfl rfl (fun e0 => v_fieldAddr rfl underlying28 rfl sizeOf3 rfl rfl) fun a h => ?_
 refine st_g h rfl rfl (gF rfl) rfl rfl (fun e0 => v_load1 (eg e0 rfl) isAgg3 (H.hp.get 0 rfl) rfl) fun a h => ?_
 obtain ⟨z5, e5, hS⟩ := bv hS
 refine st_g h rfl rfl (gF rfl) rfl rfl (fun e0 => vB e5 (v_gt (eg e0 rfl) rfl)) fun a h => ?_
 refine sB h hS rfl (v_or rfl rfl) fun z6 e6 hS a h => ?_
 refine cps 1 h rfl fun a h => ?_
 refine st_g h rfl rfl (gF rfl) rfl rfl (fun e0 => v_fieldAddr rfl underlying28 rfl sizeOf3 rfl rfl) fun a h => ?_
 refine st_g h rfl rfl (gF rfl) rfl rfl (fun e0 => v_load1 (eg e0 rfl) isAgg3 (H.hp.get 0 rfl) rfl) fun a h => ?_
 obtain ⟨z7, e7, hS⟩ := bv hS
 refine st_g h rfl rfl (gF rfl) rfl rfl (fun e0 => vB e7 (v_lt (eg e0 rfl) rfl)) fun a h => ?_
 refine sB h hS rfl (v_or rfl rfl) fun z8 e8 hS a h => ?_
 refine cps 1 h rfl fun a h => ?_
 refine st_g h rfl rfl (gF rfl) rfl rfl (fun e0 => v_fieldAddr rfl underlying28 rfl sizeOf3 rfl rfl) fun a h => ?_
 refine st_g h rfl rfl (gF rfl) rfl rfl (fun e0 => v_load1 (eg e0 rfl) isAgg3 (H.hp.get 0 rfl) rfl) fun a h => ?_
 obtain ⟨z9, e9, hS⟩ := bv hS
 refine st_g h rfl rfl (gF rfl) rfl rfl (fun e0 => vB e9 (v_gt (eg e0 rfl) rfl)) fun a h => ?_
 refine sB h hS rfl (v_or rfl rfl) fun z10 e10 hS a h => ?_
 refine cps 1 h rfl fun a h => ?_
 refine st_g h rfl rfl (gF rfl) rfl rfl (fun e0 => v_fieldAddr rfl underlying28 rfl sizeOf3 rfl rfl) fun a h => ?_
 refine st_g h rfl rfl (gF rfl) rfl rfl (fun e0 => v_load1 (eg e0 rfl) isAgg3 (H.hp.get 0 rfl) rfl) fun a h => ?_
 obtain ⟨z11, e11, hS⟩ := bv hS
 refine st_g h rfl rfl (gF rfl) rfl rfl (fun e0 => vB e11 (v_lt (eg e0 rfl) rfl)) fun a h => ?_
 refine sB h hS rfl (v_or rfl rfl) fun z12 e12 hS a h => ?_
 refine cps 1 h rfl fun a h => ?_
 refine st_g h rfl rfl (gF rfl) rfl rfl (fun e0 => v_fieldAddr rfl underlying28 rfl sizeOf3 rfl rfl) fun a h => ?_
 refine st_g h rfl rfl (gF rfl) rfl rfl (fun e0 => v_load1 (eg e0 rfl) isAgg3 (H.hp.get 0 rfl) rfl) fun a h => ?_
 obtain ⟨z13, e13, hS⟩ := bv hS
 refine st_g h rfl rfl (gF rfl) rfl rfl (fun e0 => vB e13 (v_gt (eg e0 rfl) rfl)) fun a h => ?_
 refine sB h hS rfl (v_or rfl rfl) fun z14 e14 hS a h => ?_
 refine cN k h [0, 3, 4, 32] [_, _, _, _] fun h => ?_
 refine cI h hS rfl (fun ec15 hS => ?_) fun ec15 hS => ?_
 refine rg fun K k => ?_
 refine s1 h rfl (v_build bld26 [] [_, _, _] rfl rfl) fun a h => ?_
 refine zS h H 1 sizeOf26 [_, _, _] [_, _, _] [_, _] fun w H => ?_
 refine cN k h [4] [_] fun h => ?_
 cases hS
 refine r1 hr h rfl (rvA H 1 isAgg26 sizeOf26 [_, _, _]) ⟨rfl, H.out⟩
 refine c_skip ?_
 refine flT 14 h fun K k => ?_
 refine fcps 1 rfl ?_
 refine F1 rfl (fun w X => v_fieldAddr rfl underlying28 rfl sizeOf3 rfl rfl) ?_
 refine F1 rfl (fun w X => have H := H.ext X; l1 H 0 isAgg3) ?_
 refine F1 rfl (fun w X => v_fieldAddr rfl underlying28 rfl sizeOf3 rfl rfl) ?_
 refine F1 rfl (fun w X => have H := H.ext X; l1 H 0 isAgg3) ?_
 refine fI hS rfl (fun w X => v_mulw rfl rfl) fun z16 e16 hS => ?_
 refine F1 rfl (fun w X => v_fieldAddr rfl underlying28 rfl sizeOf3 rfl rfl) ?_
 refine F1 rfl (fun w X => have H := H.ext X; l1 H 0 isAgg3) ?_
 refine fI hS rfl (fun w X => v_addw rfl rfl) fun z17 e17 hS => ?_
 refine F1 rfl (fun w X => v_nilCheck rfl) ?_
 refine F1 rfl (fun w X => v_fieldAddr rfl underlying39 rfl sizeOf37 rfl rfl) ?_
 obtain ⟨c18, hS⟩ := ck hS
 refine F1 rfl (fun w X => v_idxArrG underlying37 sizeOf36 rfl rfl c18) ?_
 obtain ⟨c19, hS⟩ := ck hS
 refine F1 rfl (fun w X => v_idxArrG underlying36 sizeOf26 rfl rfl c19) ?_
 obtain ⟨z20, e20, hS⟩ := bv hS
 refine F1 (V := .agg #[.int .i64 z20.k, .int .i64 z20.n, S z20.s]) rfl (fun w X => have H := H.ext X; v_loadEl (enc := vL) (xs := x0) (Int.toNat (64 * x1.s + z17)) rfl isAgg26 sizeOf26 (H.zin _ _ hp0) (by rw [e20]; exact gel_some (by omega)) (by dsimp only; omega) (fun _ => rfl)) ?_
 refine fE [4, 47] [_, _] H fun a w X H h => ?_
 refine zS h H 1 sizeOf26 [_, _, _] [_, _, _] [_, _] fun w H => ?_
 refine cz k ?_
 cases hS
 refine r1 hr h rfl (rvA H 1 isAgg26 sizeOf26 [_, _, _]) ⟨rfl, H.out⟩
theorem reckonerref13_Place_Value_ok {x0 : List V} {x1 : C} {res : V × C} {w0 : World} (hS : reckonerref13_Place_Value x0 x1 = some res) {Z : FZ} (hZ : Z.inn w0) {pb0 : Nat} (hp0 : Z pb0 = some (Cel ((x0 : List V).flatMap vL) 39)) (lp0 : x0.length = 128) : Calls Tryz.prog 284 [.pointer (some ⟨pb0, 0, none⟩), .agg #[.int .i64 x1.s, .int .i64 x1.c, .int .i64 x1.r]].toArray w0 (Ret fun v w => v = .tuple #[.agg #[.int .i64 res.1.k, .int .i64 res.1.n, S res.1.s], .agg #[.int .i64 res.2.s, .int .i64 res.2.c, .int .i64 res.2.r]] ∧ Ext w0 w) := by
 refine enS hZ func284 [0, 1] [_, _] fun Q a Zi eZi H h hr => ?_
 try rw [← eZi] at hr
 clear eZi
 unfold reckonerref13_Place_Value at hS
 refine rg fun K k => ?_
 refine z_box h H rfl [_, _, _] rfl rfl fun a p1 w X H h => ?_
 have H : HZ w0 _ _ [_] _ := H
 refine zA h H zeroValue26 [_, _, _] (fun x => [_, x]) fun a p2 w X H h => ?_
 refine zA h H zeroValue28 [_, _, _] (fun x => [_, _, x]) fun a p3 w X H h => ?_
 refine cz k ?_
 refine rg fun K k => ?_
 refine cps 1 h rfl fun a h => ?_
 refine s1 h rfl (lA H 0 isAgg28 sizeOf28 [_, _, _]) fun a h => ?_
 obtain ⟨y4, f4, hS⟩ := bo hS
 refine st2v (T := Ext) (V := .agg #[.int .i64 y4.k, .int .i64 y4.n, S y4.s]) h rfl rfl rfl (dC call18 (reckonerref13_Place_At_ok f4 H.zin hp0 lp0)) fun w X a h => ?_
 have H := H.ext X
 refine zA h H zeroValue26 [_, _, _] (fun x => [_, _, _, x]) fun a p5 w X H h => ?_
 refine zS h H 3 sizeOf26 [_, _, _] [_, _, _] [_, _, _, _] fun w H => ?_
 refine cN k h [3, 4, 5, 6] [_, _, _, _] fun h => ?_
 refine sq ?_
 refine rg fun K k => ?_
 refine s1 h rfl (v_fieldAddr rfl underlying26 rfl sizeOf3 rfl rfl) fun a h => ?_
 refine s1 h rfl (l1 H 3 isAgg3) fun a h => ?_
 refine sB h hS rfl (v_eq rfl rfl) fun z7 e7 hS a h => ?_
 refine cz k ?_
 refine cI h hS rfl (fun ec8 hS => ?_) fun ec8 hS => ?_
 refine lt [1, 2] h H ?_
 refine L1 rfl (fun w X => have H := X; lA H 3 isAgg26 sizeOf26 [_, _, _]) ?_
 refine L1 rfl (fun w X => have H := X; lA H 0 isAgg28 sizeOf28 [_, _, _]) ?_
 refine LZ 1 sizeOf26 [_, _, _] [_, _, _] [_, _, _, _] ?_
 refine LZ 2 sizeOf28 [_, _, _] [_, _, _] [_, _, _, _] ?_
 refine lE [4, 5] [_, _] fun a w H h => ?_
 have H : HZ w0 _ _ [_, _, _, _] _ := H
 cases hS
 refine r2 hr h rfl (rvA H 1 isAgg26 sizeOf26 [_, _, _]) (rvA H 2 isAgg28 sizeOf28 [_, _, _]) ⟨rfl, H.out⟩
 refine c_skip ?_
 refine cO h [4, 5, 6] [_, _, _] fun h => ?_
 refine rg fun K k => ?_
 refine s1 h rfl (lA H 3 isAgg26 sizeOf26 [_, _, _]) fun a h => ?_
 refine s1 h rfl (v_build bld28 [] [_, _, _] rfl rfl) fun a h => ?_
 refine zS h H 1 sizeOf26 [_, _, _] [_, _, _] [_, _, _, _] fun w H => ?_
 refine zS h H 2 sizeOf28 [_, _, _] [_, _, _] [_, _, _, _] fun w H => ?_
 refine cz k ?_
 cases hS
 refine r2 hr h rfl (rvA H 1 isAgg26 sizeOf26 [_, _, _]) (rvA H 2 isAgg28 sizeOf28 [_, _, _]) ⟨rfl, H.out⟩
theorem reckonerref13_Place_Name_ok {x0 : List V} {x1 : List UInt8} {res : Nd × Bool} {w0 : World} (hS : reckonerref13_Place_Name x0 x1 = some res) {Z : FZ} (hZ : Z.inn w0) {pb0 : Nat} (hp0 : Z pb0 = some (Cel ((x0 : List V).flatMap vL) 39)) (lp0 : x0.length = 128) : Calls Tryz.prog 283 [.pointer (some ⟨pb0, 0, none⟩), S x1].toArray w0 (Ret fun v w => ∃ u1, v = .tuple #[.agg #[.int .i64 res.1.k, .int .i64 res.1.op, .int .i64 res.1.v.k, .int .i64 res.1.v.n, S res.1.v.s, .int .i64 res.1.a.c.s, .int .i64 res.1.a.c.c, .int .i64 res.1.a.c.r, .bool res.1.a.ac, .bool res.1.a.ar, .int .i64 res.1.b.c.s, .int .i64 res.1.b.c.c, .int .i64 res.1.b.c.r, .bool res.1.b.ac, .bool res.1.b.ar, S res.1.nm, u1], .bool res.2] ∧ RdN (ZB Z w0.heap.size w) u1 nodeEnc res.1.l ∧ Ext w0 w) := by
 refine enS hZ func283 [1] [_] fun Q a Zi eZi H h hr => ?_
 try rw [← eZi] at hr
 clear eZi
 unfold reckonerref13_Place_Name at hS
 refine rg fun K k => ?_
 refine zA h H zeroValue33 [_, _, _, _, _, _, _, _, _, _, _, _, _, _, _, _, _] (fun x => [x]) fun a p1 w X H h => ?_
 refine cps 1 h rfl fun a h => ?_
 refine cz k ?_
 refine rg fun K k => ?_
 refine s1 h rfl (v_build bld30 [] [_, _, _, _, _] rfl rfl) fun a h => ?_
 refine zA h H zeroValue30 [_, _, _, _, _] (fun x => [_, x]) fun a p2 w X H h => ?_
 refine zS h H 1 sizeOf30 [_, _, _, _, _] [_, _, _, _, _] [_, _] fun w H => ?_
 refine cz k ?_
 refine rg fun K k => ?_
 refine s1 h rfl (v_fieldAddr rfl underlying30 rfl sizeOf28 rfl rfl) fun a h => ?_
 refine s1 h rfl (v_fieldAddr rfl underlying28 rfl sizeOf3 rfl rfl) fun a h => ?_
 refine zS h H 1 sizeOf3 [_] [_, _, _, _, _] [_, _] fun w H => ?_
 refine cN k h [1, 4, 6] [_, _, _] fun h => ?_
 refine rg fun K k => ?_
 refine s1 h rfl (v_fieldAddr rfl underlying30 rfl sizeOf28 rfl rfl) fun a h => ?_
 refine s1 h rfl (v_fieldAddr rfl underlying28 rfl sizeOf3 rfl rfl) fun a h => ?_
 refine zS h H 1 sizeOf3 [_] [_, _, _, _, _] [_, _] fun w H => ?_
 refine cz k ?_
 refine sq ?_
 refine rg fun K k => ?_
 refine cps 1 h rfl fun a h => ?_
 refine sB h hS rfl (v_seq rfl rfl) fun z4 e4 hS a h => ?_
 refine cz k ?_
 refine cI h hS rfl (fun ec5 hS => ?_) fun ec5 hS => ?_
 refine rg fun K k => ?_
 refine s1 h rfl (v_build bld33 [_] [_, _, _, _, _, _, _, _, _, _, _, _, _, _, _, _, _] rfl rfl) fun a h => ?_
 refine zS h H 0 sizeOf33 [_, _, _, _, _, _, _, _, _, _, _, _, _, _, _, _, _] [_, _, _, _, _, _, _, _, _, _, _, _, _, _, _, _, _] [_, _] fun w H => ?_
 refine cps 1 h rfl fun a h => ?_
 refine cN k h [4, 5] [_, _] fun h => ?_
 cases hS
 refine r2 hr h rfl (rvA H 0 isAgg33 sizeOf33 [_, _, _, _, _, _, _, _, _, _, _, _, _, _, _, _, _]) rfl ⟨_, rfl, RdN.nil, H.out⟩
 refine c_skip ?_
 refine cO h [1, 4, 6] [_, _, _] fun h => ?_
 refine sq ?_
 refine rg fun K k => ?_
 refine cps 1 h rfl fun a h => ?_
 refine sB h hS rfl (v_seq rfl rfl) fun z7 e7 hS a h => ?_
 refine cz k ?_
 refine cI h hS rfl (fun ec8 hS => ?_) fun ec8 hS => ?_
 refine rg fun K k => ?_
 refine s1 h rfl (lA H 1 isAgg30 sizeOf30 [_, _, _, _, _]) fun a h => ?_
 refine s1 h rfl (v_build bld33 [_, _] [_, _, _, _, _, _, _, _, _, _, _, _, _, _, _, _, _] rfl rfl) fun a h => ?_
 refine zS h H 0 sizeOf33 [_, _, _, _, _, _, _, _, _, _, _, _, _, _, _, _, _] [_, _, _, _, _, _, _, _, _, _, _, _, _, _, _, _, _] [_, _] fun w H => ?_
 refine cps 1 h rfl fun a h => ?_
 refine cN k h [4, 5] [_, _] fun h => ?_
 cases hS
 refine r2 hr h rfl (rvA H 0 isAgg33 sizeOf33 [_, _, _, _, _, _, _, _, _, _, _, _, _, _, _, _, _]) rfl ⟨_, rfl, RdN.nil, H.out⟩
 refine c_skip ?_
 refine cO h [4] [_] fun h => ?_
 refine rg fun K k => ?_
 refine s1 h rfl (v_build bld33 [] [_, _, _, _, _, _, _, _, _, _, _, _, _, _, _, _, _] rfl rfl) fun a h => ?_
 refine zS h H 0 sizeOf33 [_, _, _, _, _, _, _, _, _, _, _, _, _, _, _, _, _] [_, _, _, _, _, _, _, _, _, _, _, _, _, _, _, _, _] [_, _] fun w H => ?_
 refine cps 1 h rfl fun a h => ?_
 refine cz k ?_
 cases hS
 refine r2 hr h rfl (rvA H 0 isAgg33 sizeOf33 [_, _, _, _, _, _, _, _, _, _, _, _, _, _, _, _, _]) rfl ⟨_, rfl, RdN.nil, H.out⟩
theorem eval_Area_ok {x0 : List V} {x1 : Nd} {res : C × C × Bool} {w0 : World} (hS : eval_Area x0 x1 = some res) {Z : FZ} (hZ : Z.inn w0) {xv1 : Value} (rp1 : RdN Z xv1 nodeEnc x1.l) {pb0 : Nat} (hp0 : Z pb0 = some (Cel ((x0 : List V).flatMap vL) 39)) (lp0 : x0.length = 128) : Calls Tryz.prog 52 [.iface 35 (.pointer (some ⟨pb0, 0, none⟩)), .agg #[.int .i64 x1.k, .int .i64 x1.op, .int .i64 x1.v.k, .int .i64 x1.v.n, S x1.v.s, .int .i64 x1.a.c.s, .int .i64 x1.a.c.c, .int .i64 x1.a.c.r, .bool x1.a.ac, .bool x1.a.ar, .int .i64 x1.b.c.s, .int .i64 x1.b.c.c, .int .i64 x1.b.c.r, .bool x1.b.ac, .bool x1.b.ar, S x1.nm, xv1]].toArray w0 (Ret fun v w => v = .tuple #[.agg #[.int .i64 res.1.s, .int .i64 res.1.c, .int .i64 res.1.r], .agg #[.int .i64 res.2.1.s, .int .i64 res.2.1.c, .int .i64 res.2.1.r], .bool res.2.2] ∧ Ext w0 w) := by
 refine enS hZ func52 [0, 1] [_, _] fun Q a Zi eZi H h hr => ?_
 try rw [← eZi] at hr
 clear eZi
 unfold eval_Area at hS
 refine rg fun K k => ?_
 refine z_box h H rfl [_, _, _, _, _, _, _, _, _, _, _, _, _, _, _, _, _] rfl rfl fun a p1 w X H h => ?_
 have H : HZ w0 _ _ [_] _ := H
 refine zA h H zeroValue28 [_, _, _] (fun x => [_, x]) fun a p2 w X H h => ?_
 refine zA h H zeroValue28 [_, _, _] (fun x => [_, _, x]) fun a p3 w X H h => ?_
 refine cps 1 h rfl fun a h => ?_
 refine cz k ?_
 obtain ⟨J5, eJ5, hS⟩ := bv hS
 refine sqJ (fun a w => ∃ (Z : FZ) (s5 : Int × Int × Int × Int × (List UInt8) × Int × Int × Int × Bool × Bool × Int × Int × Int × Bool × Bool × (List UInt8) × (List (Nd))) (v0_16_6 : Value), J5 s5 = some res ∧ Fr 45 [(3, .pointer (some ⟨p1, 0, none⟩)), (4, .pointer (some ⟨p2, 0, none⟩)), (5, .pointer (some ⟨p3, 0, none⟩))] a ∧ HZ w0 Zi Z [.blk p1 (Cel [.int .i64 s5.1, .int .i64 s5.2.1, .int .i64 s5.2.2.1, .int .i64 s5.2.2.2.1, S s5.2.2.2.2.1, .int .i64 s5.2.2.2.2.2.1, .int .i64 s5.2.2.2.2.2.2.1, .int .i64 s5.2.2.2.2.2.2.2.1, .bool s5.2.2.2.2.2.2.2.2.1, .bool s5.2.2.2.2.2.2.2.2.2.1, .int .i64 s5.2.2.2.2.2.2.2.2.2.2.1, .int .i64 s5.2.2.2.2.2.2.2.2.2.2.2.1, .int .i64 s5.2.2.2.2.2.2.2.2.2.2.2.2.1, .bool s5.2.2.2.2.2.2.2.2.2.2.2.2.2.1, .bool s5.2.2.2.2.2.2.2.2.2.2.2.2.2.2.1, S s5.2.2.2.2.2.2.2.2.2.2.2.2.2.2.2.1, v0_16_6] 33), .blk p2 (Cel [.int .i64 0, .int .i64 0, .int .i64 0] 28), .blk p3 (Cel [.int .i64 0, .int .i64 0, .int .i64 0] 28)] w ∧ RdN Z v0_16_6 nodeEnc s5.2.2.2.2.2.2.2.2.2.2.2.2.2.2.2.2 ∧ Z pb0 = some (Cel ((x0 : List V).flatMap vL) 39)) ?_ ?_
 rintro a w ⟨Z, s5, v0_16_6, hS, h, H, r0_16_6, hp0⟩
 subst eJ5
 refine sq ?_
 refine rg fun K k => ?_
 refine s1 h rfl (v_fieldAddr rfl underlying33 rfl sizeOf3 rfl rfl) fun a h => ?_
 refine s1 h rfl (l1 H 0 isAgg3) fun a h => ?_
 refine cz k ?_
 refine lb ?_
 refine rg fun K k => ?_
 refine sB h hS rfl (v_eq rfl rfl) fun z9 e9 hS a h => ?_
 refine cps 1 h rfl fun a h => ?_
 refine cz k ?_
 refine cI h hS rfl (fun ec10 hS => ?_) fun ec10 hS => ?_
 refine rg fun K k => ?_
 refine s1 h rfl (v_fieldAddr rfl underlying33 rfl sizeOf30 rfl rfl) fun a h => ?_
 refine s1 h rfl (v_fieldAddr rfl underlying30 rfl sizeOf28 rfl rfl) fun a h => ?_
 refine s1 h rfl (lA H 0 isAgg28 sizeOf28 [_, _, _]) fun a h => ?_
 refine s1 h rfl (v_fieldAddr rfl underlying33 rfl sizeOf30 rfl rfl) fun a h => ?_
 refine s1 h rfl (v_fieldAddr rfl underlying30 rfl sizeOf28 rfl rfl) fun a h => ?_
 refine s1 h rfl (lA H 0 isAgg28 sizeOf28 [_, _, _]) fun a h => ?_
 refine sC h H hS rfl (fun y11 f11 => dC call77 (addr_Order_ok f11 :)) fun y11 hS w X H a h => ?_
 refine cps 3 h rfl fun a h => ?_
 refine zS h H 1 sizeOf28 [_, _, _] [_, _, _] [_, _, _] fun w H => ?_
 refine zS h H 2 sizeOf28 [_, _, _] [_, _, _] [_, _, _] fun w H => ?_
 refine cps 1 h rfl fun a h => ?_
 refine cN k h [4, 5, 6] [_, _, _] fun h => ?_
 cases hS
 refine r3 hr h rfl (rvA H 1 isAgg28 sizeOf28 [_, _, _]) (rvA H 2 isAgg28 sizeOf28 [_, _, _]) rfl ⟨rfl, H.out⟩
 refine rg fun K k => ?_
 refine sB h hS rfl (v_eq rfl rfl) fun z12 e12 hS a h => ?_
 refine cps 1 h rfl fun a h => ?_
 refine cN k h [3, 4, 5, 35] [_, _, _, _] fun h => ?_
 refine cI h hS rfl (fun ec13 hS => ?_) fun ec13 hS => ?_
 refine lt [1, 2] h H ?_
 refine L1 rfl (fun w X => v_fieldAddr rfl underlying33 rfl sizeOf30 rfl rfl) ?_
 refine L1 rfl (fun w X => v_fieldAddr rfl underlying30 rfl sizeOf28 rfl rfl) ?_
 refine L1 rfl (fun w X => have H := X; lA H 0 isAgg28 sizeOf28 [_, _, _]) ?_
 refine L1 rfl (fun w X => v_fieldAddr rfl underlying33 rfl sizeOf30 rfl rfl) ?_
 refine L1 rfl (fun w X => v_fieldAddr rfl underlying30 rfl sizeOf28 rfl rfl) ?_
 refine L1 rfl (fun w X => have H := X; lA H 0 isAgg28 sizeOf28 [_, _, _]) ?_
 refine LZ 1 sizeOf28 [_, _, _] [_, _, _] [_, _, _] ?_
 refine LZ 2 sizeOf28 [_, _, _] [_, _, _] [_, _, _] ?_
 refine lcps 1 rfl ?_
 refine lE [4, 5, 6] [_, _, _] fun a w H h => ?_
 have H : HZ w0 _ _ [_, _, _] _ := H
 cases hS
 refine r3 hr h rfl (rvA H 1 isAgg28 sizeOf28 [_, _, _]) (rvA H 2 isAgg28 sizeOf28 [_, _, _]) rfl ⟨rfl, H.out⟩
 refine c_skip ?_
 refine rg fun K k => ?_
 refine s1 h rfl (v_build bld28 [] [_, _, _] rfl rfl) fun a h => ?_
 refine s1 h rfl (v_build bld28 [] [_, _, _] rfl rfl) fun a h => ?_
 refine zS h H 1 sizeOf28 [_, _, _] [_, _, _] [_, _, _] fun w H => ?_
 refine zS h H 2 sizeOf28 [_, _, _] [_, _, _] [_, _, _] fun w H => ?_
 refine cps 1 h rfl fun a h => ?_
 refine cN k h [4, 5, 6] [_, _, _] fun h => ?_
 cases hS
 refine r3 hr h rfl (rvA H 1 isAgg28 sizeOf28 [_, _, _]) (rvA H 2 isAgg28 sizeOf28 [_, _, _]) rfl ⟨rfl, H.out⟩
 refine rg fun K k => ?_
 refine s1 h rfl (v_fieldAddr rfl underlying33 rfl sizeOf3 rfl rfl) fun a h => ?_
 refine s1 h rfl (l1 H 0 isAgg3) fun a h => ?_
 refine sB h hS rfl (v_eq rfl rfl) fun z14 e14 hS a h => ?_
 refine cN k h [0, 3, 4, 5, 11] [_, _, _, _, _] fun h => ?_
 refine cI h hS rfl (fun ec15 hS => ?_) fun ec15 hS => ?_
 refine rg fun K k => ?_
 refine cps 1 h rfl fun a h => ?_
 refine s1 h rfl (v_fieldAddr rfl underlying33 rfl sizeOf9 rfl rfl) fun a h => ?_
 refine s1 h rfl (l1 H 0 isAgg9) fun a h => ?_
 obtain ⟨y16, f16, hS⟩ := bo hS
 refine st2 h rfl rfl rfl (d_invoke [_] ifm_Name rfl rfl (reckonerref13_Place_Name_ok f16 H.zin hp0 lp0)) ?_
 rintro v_ w ⟨v16_17_1, rfl, r16_17_1, X⟩ a h
 obtain ⟨Z, hsub, hadd, H⟩ := H.adopt' X
 have rp1 := rp1.sub hsub
 have hp0 := hsub _ _ hp0
 have r16_17_1 := r16_17_1.sub hadd
 refine cps 3 h rfl fun a h => ?_
 refine zA h H zeroValue33 [_, _, _, _, _, _, _, _, _, _, _, _, _, _, _, _, _] (fun x => [_, _, _, x]) fun a p18 w X H h => ?_
 refine z_store h H 3 rfl rfl rfl sizeOf33 [_, _, _, _, _, _, _, _, _, _, _, _, _, _, _, _, _] rfl rfl (by obtain ⟨_, _, _, e_⟩ := (r16_17_1).form; subst e_; rfl) (by simp) [_, _, _, _, _, _, _, _, _, _, _, _, _, _, _, _, _] rfl (hl' := [_, _, _, _]) rfl fun w H => ?_
 refine cps 1 h rfl fun a h => ?_
 refine cN k h [3, 4, 5, 7, 8] [_, _, _, _, _] fun h => ?_
 refine rg fun K k => ?_
 refine cps 1 h rfl fun a h => ?_
 refine cz k ?_
 refine cI h hS rfl (fun ec19 hS => ?_) fun ec19 hS => ?_
 refine c_lregion ?_
 refine s1 h rfl (lA H 3 isAgg33 sizeOf33 [_, _, _, _, _, _, _, _, _, _, _, _, _, _, _, _, _]) fun a h => ?_
 refine z_store h H 0 rfl rfl rfl sizeOf33 [_, _, _, _, _, _, _, _, _, _, _, _, _, _, _, _, _] rfl rfl (by obtain ⟨_, _, _, e_⟩ := (r16_17_1).form; subst e_; rfl) (by simp) [_, _, _, _, _, _, _, _, _, _, _, _, _, _, _, _, _] rfl (hl' := [_, _, _, _]) rfl fun w H => ?_
 refine c_lnil ?_
 exact ex3 ⟨hS, h.to, (H.keepN 3 rfl), r16_17_1, hp0⟩
 exact c_skip (ex3 ⟨hS, h.to, (H.keepN 3 rfl), rp1, hp0⟩)
 exact c_skip (ex3 ⟨hS, h.to, H, rp1, hp0⟩)
theorem eval_run_made_ok {x0 : Rn} {x1 : V} {res : Gt} {w0 : World} (hS : eval_run_made x0 x1 = some res) {Z : FZ} (hZ : Z.inn w0) {rb0 pb0 mb0 : Nat} (hr0 : Z rb0 = some (Cel [.iface 35 (.pointer (some ⟨pb0, 0, none⟩)), .int .i64 x0.c.s, .int .i64 x0.c.c, .int .i64 x0.c.r, .map (some mb0)] 107)) (hp0 : Z pb0 = some (Cel ((x0.p : List V).flatMap vL) 39)) (lp0 : x0.p.length = 128) : Calls Tryz.prog 85 [.pointer (some ⟨rb0, 0, none⟩), .agg #[.int .i64 x1.k, .int .i64 x1.n, S x1.s]].toArray w0 (Ret fun v w => v = .agg #[.int .i64 res.v.k, .int .i64 res.v.n, S res.v.s, .int .i64 res.c.s, .int .i64 res.c.c, .int .i64 res.c.r] ∧ Ext w0 w) := by
 refine enS hZ func85 [0, 1] [_, _] fun Q a Zi eZi H h hr => ?_
 try rw [← eZi] at hr
 clear eZi
 unfold eval_run_made at hS
 refine rg fun K k => ?_
 refine z_box h H rfl [_, _, _] rfl rfl fun a p1 w X H h => ?_
 have H : HZ w0 _ _ [_] _ := H
 refine zA h H zeroValue109 [_, _, _, _, _, _] (fun x => [_, x]) fun a p2 w X H h => ?_
 refine cz k ?_
 refine flT 6 h fun K k => ?_
 refine F1 rfl (fun w X => have H := H.ext X; lA H 0 isAgg26 sizeOf26 [_, _, _]) ?_
 refine fcps 1 rfl ?_
 refine F1 rfl (fun w X => v_nilCheck rfl) ?_
 refine F1 rfl (fun w X => v_fieldAddr rfl underlying107 rfl sizeOf28 rfl rfl) ?_
 refine F1 rfl (fun w X => have H := H.ext X; v_loadA [_, _, _] rfl isAgg28 sizeOf28 (H.zin _ _ hr0) rfl rfl) ?_
 refine F1 rfl (fun w X => v_build bld109 [_, _] [_, _, _, _, _, _] rfl rfl) ?_
 refine fE [4, 10] [_, _] H fun a w X H h => ?_
 refine zS h H 1 sizeOf109 [_, _, _, _, _, _] [_, _, _, _, _, _] [_, _] fun w H => ?_
 refine cz k ?_
 cases hS
 refine r1 hr h rfl (rvA H 1 isAgg109 sizeOf109 [_, _, _, _, _, _]) ⟨rfl, H.out⟩
theorem eval_run_cell_ok {x0 : Rn} {x1 : C} {m0 : List (C × Bool)} {res : (Gt) × List (C × Bool)} {w0 : World} (hS : eval_run_cell x0 x1 m0 = some res) {Z : FZ} (hZ : Z.inn w0) {rb0 pb0 mb0 : Nat} (hr0 : Z rb0 = some (Cel [.iface 35 (.pointer (some ⟨pb0, 0, none⟩)), .int .i64 x0.c.s, .int .i64 x0.c.c, .int .i64 x0.c.r, .map (some mb0)] 107)) (hp0 : Z pb0 = some (Cel ((x0.p : List V).flatMap vL) 39)) (lp0 : x0.p.length = 128) (hm0 : w0.heap[mb0]? = some (MObj cV Value.bool m0)) (om0 : Z mb0 = none) {B0 : Bs} (eB : B0 = ⟨w0, [mb0]⟩) {Zi : FZ} (eZ : Zi = Z) : Calls Tryz.prog 86 [.pointer (some ⟨rb0, 0, none⟩), .agg #[.int .i64 x1.s, .int .i64 x1.c, .int .i64 x1.r]].toArray w0 (Ret fun v w => v = .agg #[.int .i64 res.1.v.k, .int .i64 res.1.v.n, S res.1.v.s, .int .i64 res.1.c.s, .int .i64 res.1.c.c, .int .i64 res.1.c.r] ∧ w.heap[mb0]? = some (MObj cV Value.bool res.2) ∧ ExtB B0 w) := by
 have H : HZ B0 Zi Z [.blk mb0 (MObj cV Value.bool m0)] w0 := by rw [eB, eZ]; exact HZ.startLM hZ hm0 om0
 refine enG func86 [0, 1] [_, _] fun Q a h hr hn => ?_
 clear eB eZ
 have H : HZ B0 _ _ [_] _ := H
 unfold eval_run_cell at hS
 refine rg fun K k => ?_
 refine z_box h H rfl [_, _, _] rfl rfl fun a p1 w X H h => ?_
 have H : HZ B0 _ _ [_, _] _ := H
 refine zA h H zeroValue109 [_, _, _, _, _, _] (fun x => [_, _, x]) fun a p2 w X H h => ?_
 refine cz k ?_
 refine flT 5 h fun K k => ?_
 refine fcps 1 rfl ?_
 refine F1 rfl (fun w X => v_nilCheck rfl) ?_
 refine F1 rfl (fun w X => v_fieldAddr rfl underlying107 rfl sizeOf105 rfl rfl) ?_
 refine F1 rfl (fun w X => have H := H.ext X; v_load1 rfl isAgg105 (H.zin _ _ hr0) rfl) ?_
 refine F1 rfl (fun w X => have H := H.ext X; lA H 1 isAgg28 sizeOf28 [_, _, _]) ?_
 refine fE [0, 3, 4, 10, 11] [_, _, _, _, _] H fun a w X H h => ?_
 obtain ⟨zm0_3, ezm0_3, hS⟩ := bv hS
 refine z_mapUpdate (ev' := Value.bool) mk28 h H 0 rfl underlying105 rfl (k := x1) rfl (v := true) rfl (hl' := [_, _, _]) rfl fun w H => ?_
 rw [← ezm0_3] at H
 have H : HZ B0 _ _ [_, _, _] _ := H
 refine cz k ?_
 refine flU 11 [8] h ?_
 refine fcps 1 rfl ?_
 refine F1 rfl (fun w X => v_nilCheck rfl) ?_
 refine F1 rfl (fun w X => v_fieldAddr rfl underlying107 rfl sizeOf96 rfl rfl) ?_
 refine F1 rfl (fun w X => have H := H.ext X; v_load1 rfl isAgg96 (H.zin _ _ hr0) rfl) ?_
 refine F1 rfl (fun w X => have H := H.ext X; lA H 1 isAgg28 sizeOf28 [_, _, _]) ?_
 obtain ⟨y4, f4, hS⟩ := bo hS
 refine f2 (V := .tuple #[.agg #[.int .i64 y4.1.k, .int .i64 y4.1.n, S y4.1.s], .agg #[.int .i64 y4.2.s, .int .i64 y4.2.c, .int .i64 y4.2.r]]) [16, 17] rfl rfl rfl rfl (fun w X => have Hs := ZB.of H.zin X; have H := H.ext X; d_invoke [_] ifm_Value rfl rfl (reckonerref13_Place_Value_ok f4 (ZB.inn H.zin) (Hs _ _ hp0) lp0)) ?_
 refine fcps 3 rfl ?_
 refine f_alloc zeroValue26 [_, _, _] rfl rfl ?_
 refine f_alloc zeroValue28 [_, _, _] rfl rfl ?_
 refine fn_ ?_
 intro a w X hR hA
 obtain ⟨_, ⟨p5, rfl, hb5⟩, _, ⟨p6, rfl, hb6⟩, h⟩ := hR.out [4, 5, 6, 19, 20]
 have h : Fr 24 [(20, _), (19, _), (6, _), (5, _), (4, _)] a := h
 have lo5 := hA.lo' h (s := 5) rfl rfl
 have lo6 := hA.lo' h (s := 6) rfl rfl
 have ne_ := hA.ne' h (s := 5) (t := 6) rfl rfl rfl rfl rfl
 have H := H.pushF2 X hb5 lo5 hb6 lo6 ne_
 have H : HZ B0 _ _ [_, _, _, _, _] _ := H
 refine tS h H 3 sizeOf26 [_, _, _] [_, _, _] [_, _, _, _, _] fun w H => ?_
 refine tS h H 4 sizeOf28 [_, _, _] [_, _, _] [_, _, _, _, _] fun w H => ?_
 refine tE ?_
 refine rg fun K k => ?_
 refine s1 h rfl (lA H 3 isAgg26 sizeOf26 [_, _, _]) fun a h => ?_
 refine s1 h rfl (lA H 4 isAgg28 sizeOf28 [_, _, _]) fun a h => ?_
 refine s1 h rfl (v_build bld109 [_, _] [_, _, _, _, _, _] rfl rfl) fun a h => ?_
 refine zS h H 2 sizeOf109 [_, _, _, _, _, _] [_, _, _, _, _, _] [_, _, _, _, _] fun w H => ?_
 refine cN k h [4] [_] fun h => ?_
 cases hS
 refine r1 hr h rfl (rvA H 2 isAgg109 sizeOf109 [_, _, _, _, _, _]) ⟨rfl, H.hp.get 0 rfl, H.outB⟩
end Go.Proofs.YtcecjdnkcbfhlaaGreatDoor
