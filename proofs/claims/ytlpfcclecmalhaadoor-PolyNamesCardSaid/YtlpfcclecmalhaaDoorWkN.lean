/- Walks: the code computes what the partial functions say. -/
import Derived.Test.YtlpfcclecmalhaaDoorSpN
import Derived.Test.YtlpfcclecmalhaaDoorWkD
import Derived.Test.YtlpfcclecmalhaaDoorFE
set_option linter.unusedSimpArgs false
set_option linter.unusedVariables false
set_option linter.unusedSectionVars false
namespace Go.Proofs.YtlpfcclecmalhaaDoor
open Go.Stp Go.RowKit Go.ValP Go.Sp _root_.Go.Proofs.Tryd
set_option maxRecDepth 100000
theorem value_Num_ok {x0 : Int} {res : V} {w0 : World} (hS : value_Num x0 = some res) : Calls Tryd.prog 29 [.int .i64 x0].toArray w0 (Ret fun v w => v = .agg #[.int .i64 res.k, .int .i64 res.n, S res.s] ∧ Ext w0 w) := by
 refine en func29 [0] [_] fun Q a Zi Z hzs H h hr => ?_
 clear hzs
 unfold value_Num at hS
 refine rg fun K k => ?_
 refine zA h H zeroValue54 [_, _, _] (fun x => [x]) fun a p1 w X H h => ?_
 refine cz k ?_
 refine rg fun K k => ?_
 refine cps 1 h rfl fun a h => ?_
 refine s1 h rfl (v_build bld54 [_, _] [_, _, _] rfl rfl) fun a h => ?_
 refine zS h H 0 sizeOf54 [_, _, _] [_, _, _] [_] fun w H => ?_
 refine cz k ?_
 cases hS
 refine r1 hr h rfl (rvA H 0 isAgg54 sizeOf54 [_, _, _]) ⟨rfl, H.out⟩

theorem value_Bool_ok {x0 : Bool} {res : V} {w0 : World} (hS : value_Bool x0 = some res) : Calls Tryd.prog 34 [.bool x0].toArray w0 (Ret fun v w => v = .agg #[.int .i64 res.k, .int .i64 res.n, S res.s] ∧ Ext w0 w) := by
 refine en func34 [0] [_] fun Q a Zi Z hzs H h hr => ?_
 clear hzs
 unfold value_Bool at hS
 refine rg fun K k => ?_
 refine zA h H zeroValue54 [_, _, _] (fun x => [x]) fun a p1 w X H h => ?_
 refine cz k ?_
 refine rg fun K k => ?_
 refine s1 h rfl (v_build bld54 [_] [_, _, _] rfl rfl) fun a h => ?_
 refine zA h H zeroValue54 [_, _, _] (fun x => [_, x]) fun a p2 w X H h => ?_
 refine zS h H 1 sizeOf54 [_, _, _] [_, _, _] [_, _] fun w H => ?_
 refine cz k ?_
 obtain ⟨J4, eJ4, hS⟩ := bv hS
 refine sqJ (fun a w => ∃ (Z : FZ) (s4 : Int), J4 s4 = some res ∧ Fr 8 [(2, .pointer (some ⟨p1, 0, none⟩)), (3, .pointer (some ⟨p2, 0, none⟩))] a ∧ HZ w0 Zi Z [.blk p1 (Cel [.int .i64 0, .int .i64 0, S []] 54), .blk p2 (Cel [.int .i64 3, .int .i64 s4, S []] 54)] w) ?_ ?_
 rintro a w ⟨Z, s4, hS, h, H⟩
 subst eJ4
 refine rg fun K k => ?_
 refine s1 h rfl (lA H 1 isAgg54 sizeOf54 [_, _, _]) fun a h => ?_
 refine zS h H 0 sizeOf54 [_, _, _] [_, _, _] [_, _] fun w H => ?_
 refine cz k ?_
 cases hS
 refine r1 hr h rfl (rvA H 0 isAgg54 sizeOf54 [_, _, _]) ⟨rfl, H.out⟩
 refine rg fun K k => ?_
 refine cps 1 h rfl fun a h => ?_
 refine cz k ?_
 refine cI h hS rfl (fun ec5 hS => ?_) fun ec5 hS => ?_
 refine c_lregion ?_
 refine s1 h rfl (v_fieldAddr rfl underlying54 rfl sizeOf2 rfl rfl) fun a h => ?_
 refine zS h H 1 sizeOf2 [_] [_, _, _] [_, _] fun w H => ?_
 refine c_lnil ?_
 exact ex2 ⟨hS, h.to, H⟩
 exact c_skip (ex2 ⟨hS, h.to, H⟩)

theorem tree_Value_ok {x0 : V} {res : Nd} {w0 : World} (hS : tree_Value x0 = some res) : Calls Tryd.prog 28 [.agg #[.int .i64 x0.k, .int .i64 x0.n, S x0.s]].toArray w0 (Ret fun v w => ∃ u1, v = .agg #[.int .i64 res.k, .int .i64 res.op, .int .i64 res.v.k, .int .i64 res.v.n, S res.v.s, .int .i64 res.a.c.s, .int .i64 res.a.c.c, .int .i64 res.a.c.r, .bool res.a.ac, .bool res.a.ar, .int .i64 res.b.c.s, .int .i64 res.b.c.c, .int .i64 res.b.c.r, .bool res.b.ac, .bool res.b.ar, S res.nm, u1] ∧ RdN (ZB Z0 w0.heap.size w) u1 nodeEnc res.l ∧ Ext w0 w) := by
 refine en func28 [0] [_] fun Q a Zi Z hzs H h hr => ?_
 clear hzs
 unfold tree_Value at hS
 refine rg fun K k => ?_
 refine z_box h H rfl [_, _, _] rfl rfl fun a p1 w X H h => ?_
 have H : HZ w0 _ _ [_] _ := H
 refine zA h H zeroValue64 [_, _, _, _, _, _, _, _, _, _, _, _, _, _, _, _, _] (fun x => [_, x]) fun a p2 w X H h => ?_
 refine cz k ?_
 refine rg fun K k => ?_
 refine s1 h rfl (lA H 0 isAgg54 sizeOf54 [_, _, _]) fun a h => ?_
 refine s1 h rfl (v_build bld64 [_, _] [_, _, _, _, _, _, _, _, _, _, _, _, _, _, _, _, _] rfl rfl) fun a h => ?_
 refine zS h H 1 sizeOf64 [_, _, _, _, _, _, _, _, _, _, _, _, _, _, _, _, _] [_, _, _, _, _, _, _, _, _, _, _, _, _, _, _, _, _] [_, _] fun w H => ?_
 refine cN k h [2] [_] fun h => ?_
 cases hS
 refine r1 hr h rfl (rvA H 1 isAgg64 sizeOf64 [_, _, _, _, _, _, _, _, _, _, _, _, _, _, _, _, _]) ⟨_, rfl, RdN.nil, H.out⟩

theorem tree_Cell_ok {x0 : Rf} {res : Nd} {w0 : World} (hS : tree_Cell x0 = some res) : Calls Tryd.prog 32 [.agg #[.int .i64 x0.c.s, .int .i64 x0.c.c, .int .i64 x0.c.r, .bool x0.ac, .bool x0.ar]].toArray w0 (Ret fun v w => ∃ u1, v = .agg #[.int .i64 res.k, .int .i64 res.op, .int .i64 res.v.k, .int .i64 res.v.n, S res.v.s, .int .i64 res.a.c.s, .int .i64 res.a.c.c, .int .i64 res.a.c.r, .bool res.a.ac, .bool res.a.ar, .int .i64 res.b.c.s, .int .i64 res.b.c.c, .int .i64 res.b.c.r, .bool res.b.ac, .bool res.b.ar, S res.nm, u1] ∧ RdN (ZB Z0 w0.heap.size w) u1 nodeEnc res.l ∧ Ext w0 w) := by
 refine en func32 [0] [_] fun Q a Zi Z hzs H h hr => ?_
 clear hzs
 unfold tree_Cell at hS
 refine rg fun K k => ?_
 refine z_box h H rfl [_, _, _, _, _] rfl rfl fun a p1 w X H h => ?_
 have H : HZ w0 _ _ [_] _ := H
 refine zA h H zeroValue64 [_, _, _, _, _, _, _, _, _, _, _, _, _, _, _, _, _] (fun x => [_, x]) fun a p2 w X H h => ?_
 refine cz k ?_
 refine rg fun K k => ?_
 refine s1 h rfl (lA H 0 isAgg61 sizeOf61 [_, _, _, _, _]) fun a h => ?_
 refine s1 h rfl (v_build bld64 [_, _] [_, _, _, _, _, _, _, _, _, _, _, _, _, _, _, _, _] rfl rfl) fun a h => ?_
 refine zS h H 1 sizeOf64 [_, _, _, _, _, _, _, _, _, _, _, _, _, _, _, _, _] [_, _, _, _, _, _, _, _, _, _, _, _, _, _, _, _, _] [_, _] fun w H => ?_
 refine cN k h [2] [_] fun h => ?_
 cases hS
 refine r1 hr h rfl (rvA H 1 isAgg64 sizeOf64 [_, _, _, _, _, _, _, _, _, _, _, _, _, _, _, _, _]) ⟨_, rfl, RdN.nil, H.out⟩

theorem tree_Apply_ok {x0 : Int} {x1 : List (Nd)} {res : Nd} {w0 : World} (hS : tree_Apply x0 x1 = some res) {Z : FZ} (hZ : Z.inn w0) {xv1 : Value} (rp1 : RdN Z xv1 nodeEnc x1) : Calls Tryd.prog 30 [.int .i64 x0, xv1].toArray w0 (Ret fun v w => ∃ u1, v = .agg #[.int .i64 res.k, .int .i64 res.op, .int .i64 res.v.k, .int .i64 res.v.n, S res.v.s, .int .i64 res.a.c.s, .int .i64 res.a.c.c, .int .i64 res.a.c.r, .bool res.a.ac, .bool res.a.ar, .int .i64 res.b.c.s, .int .i64 res.b.c.c, .int .i64 res.b.c.r, .bool res.b.ac, .bool res.b.ar, S res.nm, u1] ∧ RdN (ZB Z w0.heap.size w) u1 nodeEnc res.l ∧ Ext w0 w) := by
 refine enS hZ func30 [0, 1] [_, _] fun Q a Zi eZi H h hr => ?_
 try rw [← eZi] at hr
 clear eZi
 unfold tree_Apply at hS
 refine rg fun K k => ?_
 refine zA h H zeroValue64 [_, _, _, _, _, _, _, _, _, _, _, _, _, _, _, _, _] (fun x => [x]) fun a p1 w X H h => ?_
 refine cz k ?_
 refine rg fun K k => ?_
 refine cps 2 h rfl fun a h => ?_
 have H := H.nilRow 64 17 rfl
 have H : HZ w0 _ _ [_, _] _ := H
 have el1 : EL nodeEnc Z ([] : List (Cl 17)) ([] : List (Nd)) := trivial
 obtain ⟨c3, hS⟩ := ck hS
 obtain ⟨z4, e4, hS⟩ := bv hS
 obtain ⟨cy_2, ry_2, ey_2⟩ := id rp1
 refine z_appendS (enc := (Subtype.val (p := fun l : List Value => l.length = 17))) (out := ([] : List (Cl 17))) (data := cy_2) h H 1 rfl underlying62 app64 rfl rfl rfl ry_2 (fun c => c.2) ey_2.one (bnd el1.len ey_2.len c3) rfl fun a v7_2 w H h => ?_
 have el1 := EL.append el1 ey_2
 rw [← e4] at el1
 have el1 : EL nodeEnc Z (List.append (α := Cl 17) ([] : List (Cl 17)) cy_2) z4 := el1
 have H : HZ w0 _ _ [_, _] _ := H
 obtain ⟨Z, hsub, H, rz1_5⟩ := H.freezeRowN (E := nodeEnc) 1 rfl el1
 have rp1 := rp1.sub hsub
 have H : HZ w0 _ _ [_, _] _ := H
 refine s1 h rfl (v_build bld64 [.int .i64 8, .int .i64 x0, v7_2] [.int .i64 8, .int .i64 x0, .int .i64 0, .int .i64 0, S [], .int .i64 0, .int .i64 0, .int .i64 0, .bool false, .bool false, .int .i64 0, .int .i64 0, .int .i64 0, .bool false, .bool false, S [], v7_2] rfl (by obtain ⟨_, _, _, e_⟩ := (rz1_5).form; subst e_; rfl)) fun a h => ?_
 refine z_store h H 0 rfl rfl rfl sizeOf64 [_, _, _, _, _, _, _, _, _, _, _, _, _, _, _, _, _] rfl rfl (by obtain ⟨_, _, _, e_⟩ := (rz1_5).form; subst e_; rfl) (by simp) [_, _, _, _, _, _, _, _, _, _, _, _, _, _, _, _, _] rfl (hl' := [_, _]) rfl fun w H => ?_
 refine cN k h [4] [_] fun h => ?_
 cases hS
 refine r1 hr h rfl (rvA H 0 isAgg64 sizeOf64 [_, _, _, _, _, _, _, _, _, _, _, _, _, _, _, _, _]) ⟨_, rfl, rz1_5.sub H.back, H.out⟩

theorem tree_Unary_ok {x0 : Int} {x1 : Nd} {res : Nd} {w0 : World} (hS : tree_Unary x0 x1 = some res) {Z : FZ} (hZ : Z.inn w0) {xv1 : Value} (rp1 : RdN Z xv1 nodeEnc x1.l) : Calls Tryd.prog 33 [.int .i64 x0, .agg #[.int .i64 x1.k, .int .i64 x1.op, .int .i64 x1.v.k, .int .i64 x1.v.n, S x1.v.s, .int .i64 x1.a.c.s, .int .i64 x1.a.c.c, .int .i64 x1.a.c.r, .bool x1.a.ac, .bool x1.a.ar, .int .i64 x1.b.c.s, .int .i64 x1.b.c.c, .int .i64 x1.b.c.r, .bool x1.b.ac, .bool x1.b.ar, S x1.nm, xv1]].toArray w0 (Ret fun v w => ∃ u1, v = .agg #[.int .i64 res.k, .int .i64 res.op, .int .i64 res.v.k, .int .i64 res.v.n, S res.v.s, .int .i64 res.a.c.s, .int .i64 res.a.c.c, .int .i64 res.a.c.r, .bool res.a.ac, .bool res.a.ar, .int .i64 res.b.c.s, .int .i64 res.b.c.c, .int .i64 res.b.c.r, .bool res.b.ac, .bool res.b.ar, S res.nm, u1] ∧ RdN (ZB Z w0.heap.size w) u1 nodeEnc res.l ∧ Ext w0 w) := by
 refine enS hZ func33 [0, 1] [_, _] fun Q a Zi eZi H h hr => ?_
 try rw [← eZi] at hr
 clear eZi
 unfold tree_Unary at hS
 refine rg fun K k => ?_
 refine z_box h H rfl [_, _, _, _, _, _, _, _, _, _, _, _, _, _, _, _, _] rfl rfl fun a p1 w X H h => ?_
 have H : HZ w0 _ _ [_] _ := H
 refine zA h H zeroValue64 [_, _, _, _, _, _, _, _, _, _, _, _, _, _, _, _, _] (fun x => [_, x]) fun a p2 w X H h => ?_
 refine cz k ?_
 refine rg fun K k => ?_
 refine cps 1 h rfl fun a h => ?_
 refine s1 h rfl (lA H 0 isAgg64 sizeOf64 [_, _, _, _, _, _, _, _, _, _, _, _, _, _, _, _, _]) fun a h => ?_
 refine z_slice (enc := (Subtype.val (p := fun l : List Value => l.length = 17))) ([⟨[.int .i64 x1.k, .int .i64 x1.op, .int .i64 x1.v.k, .int .i64 x1.v.n, S x1.v.s, .int .i64 x1.a.c.s, .int .i64 x1.a.c.c, .int .i64 x1.a.c.r, .bool x1.a.ac, .bool x1.a.ar, .int .i64 x1.b.c.s, .int .i64 x1.b.c.c, .int .i64 x1.b.c.r, .bool x1.b.ac, .bool x1.b.ar, S x1.nm, xv1], rfl⟩] : List (Cl 17)) h H underlying62 sizeOf64 zeroValue64 rfl (zl := [.int .i64 0, .int .i64 0, .int .i64 0, .int .i64 0, S [], .int .i64 0, .int .i64 0, .int .i64 0, .bool false, .bool false, .int .i64 0, .int .i64 0, .int .i64 0, .bool false, .bool false, S [], .slice none 0 0]) (by kernel_rfl) (plA_get 1 17) [_] [_, _, _, _, _, _, _, _, _, _, _, _, _, _, _, _, _] rfl rfl rfl rfl rfl fun a v7_3 Z w hsub X H r7_3 h => ?_
 have rp1 := rp1.sub hsub
 have r7_3 : RdN Z v7_3 nodeEnc [x1] := ⟨_, r7_3, ⟨node_mk ⟨_, rfl, rp1⟩, trivial⟩⟩
 refine s1 h rfl (v_build bld64 [.int .i64 x0, v7_3] [.int .i64 x0, .int .i64 0, .int .i64 0, .int .i64 0, S [], .int .i64 0, .int .i64 0, .int .i64 0, .bool false, .bool false, .int .i64 0, .int .i64 0, .int .i64 0, .bool false, .bool false, S [], v7_3] rfl (by obtain ⟨_, _, _, e_⟩ := (r7_3).form; subst e_; rfl)) fun a h => ?_
 refine z_store h H 1 rfl rfl rfl sizeOf64 [_, _, _, _, _, _, _, _, _, _, _, _, _, _, _, _, _] rfl rfl (by obtain ⟨_, _, _, e_⟩ := (r7_3).form; subst e_; rfl) (by simp) [_, _, _, _, _, _, _, _, _, _, _, _, _, _, _, _, _] rfl (hl' := [_, _]) rfl fun w H => ?_
 refine cN k h [4] [_] fun h => ?_
 cases hS
 refine r1 hr h rfl (rvA H 1 isAgg64 sizeOf64 [_, _, _, _, _, _, _, _, _, _, _, _, _, _, _, _, _]) ⟨_, rfl, r7_3.sub H.back, H.out⟩

theorem tree_Binary_ok {x0 : Int} {x1 : Nd} {x2 : Nd} {res : Nd} {w0 : World} (hS : tree_Binary x0 x1 x2 = some res) {Z : FZ} (hZ : Z.inn w0) {xv1 : Value} (rp1 : RdN Z xv1 nodeEnc x1.l) {xv2 : Value} (rp2 : RdN Z xv2 nodeEnc x2.l) : Calls Tryd.prog 27 [.int .i64 x0, .agg #[.int .i64 x1.k, .int .i64 x1.op, .int .i64 x1.v.k, .int .i64 x1.v.n, S x1.v.s, .int .i64 x1.a.c.s, .int .i64 x1.a.c.c, .int .i64 x1.a.c.r, .bool x1.a.ac, .bool x1.a.ar, .int .i64 x1.b.c.s, .int .i64 x1.b.c.c, .int .i64 x1.b.c.r, .bool x1.b.ac, .bool x1.b.ar, S x1.nm, xv1], .agg #[.int .i64 x2.k, .int .i64 x2.op, .int .i64 x2.v.k, .int .i64 x2.v.n, S x2.v.s, .int .i64 x2.a.c.s, .int .i64 x2.a.c.c, .int .i64 x2.a.c.r, .bool x2.a.ac, .bool x2.a.ar, .int .i64 x2.b.c.s, .int .i64 x2.b.c.c, .int .i64 x2.b.c.r, .bool x2.b.ac, .bool x2.b.ar, S x2.nm, xv2]].toArray w0 (Ret fun v w => ∃ u1, v = .agg #[.int .i64 res.k, .int .i64 res.op, .int .i64 res.v.k, .int .i64 res.v.n, S res.v.s, .int .i64 res.a.c.s, .int .i64 res.a.c.c, .int .i64 res.a.c.r, .bool res.a.ac, .bool res.a.ar, .int .i64 res.b.c.s, .int .i64 res.b.c.c, .int .i64 res.b.c.r, .bool res.b.ac, .bool res.b.ar, S res.nm, u1] ∧ RdN (ZB Z w0.heap.size w) u1 nodeEnc res.l ∧ Ext w0 w) := by
 refine enS hZ func27 [0, 1, 2] [_, _, _] fun Q a Zi eZi H h hr => ?_
 try rw [← eZi] at hr
 clear eZi
 unfold tree_Binary at hS
 refine rg fun K k => ?_
 refine z_box h H rfl [_, _, _, _, _, _, _, _, _, _, _, _, _, _, _, _, _] rfl rfl fun a p1 w X H h => ?_
 have H : HZ w0 _ _ [_] _ := H
 refine z_box h H rfl [_, _, _, _, _, _, _, _, _, _, _, _, _, _, _, _, _] rfl rfl fun a p2 w X H h => ?_
 have H : HZ w0 _ _ [_, _] _ := H
 refine zA h H zeroValue64 [_, _, _, _, _, _, _, _, _, _, _, _, _, _, _, _, _] (fun x => [_, _, x]) fun a p3 w X H h => ?_
 refine cz k ?_
 refine rg fun K k => ?_
 refine cps 1 h rfl fun a h => ?_
 refine s1 h rfl (lA H 0 isAgg64 sizeOf64 [_, _, _, _, _, _, _, _, _, _, _, _, _, _, _, _, _]) fun a h => ?_
 refine s1 h rfl (lA H 1 isAgg64 sizeOf64 [_, _, _, _, _, _, _, _, _, _, _, _, _, _, _, _, _]) fun a h => ?_
 refine z_slice (enc := (Subtype.val (p := fun l : List Value => l.length = 17))) ([⟨[.int .i64 x1.k, .int .i64 x1.op, .int .i64 x1.v.k, .int .i64 x1.v.n, S x1.v.s, .int .i64 x1.a.c.s, .int .i64 x1.a.c.c, .int .i64 x1.a.c.r, .bool x1.a.ac, .bool x1.a.ar, .int .i64 x1.b.c.s, .int .i64 x1.b.c.c, .int .i64 x1.b.c.r, .bool x1.b.ac, .bool x1.b.ar, S x1.nm, xv1], rfl⟩, ⟨[.int .i64 x2.k, .int .i64 x2.op, .int .i64 x2.v.k, .int .i64 x2.v.n, S x2.v.s, .int .i64 x2.a.c.s, .int .i64 x2.a.c.c, .int .i64 x2.a.c.r, .bool x2.a.ac, .bool x2.a.ar, .int .i64 x2.b.c.s, .int .i64 x2.b.c.c, .int .i64 x2.b.c.r, .bool x2.b.ac, .bool x2.b.ar, S x2.nm, xv2], rfl⟩] : List (Cl 17)) h H underlying62 sizeOf64 zeroValue64 rfl (zl := [.int .i64 0, .int .i64 0, .int .i64 0, .int .i64 0, S [], .int .i64 0, .int .i64 0, .int .i64 0, .bool false, .bool false, .int .i64 0, .int .i64 0, .int .i64 0, .bool false, .bool false, S [], .slice none 0 0, .int .i64 0, .int .i64 0, .int .i64 0, .int .i64 0, S [], .int .i64 0, .int .i64 0, .int .i64 0, .bool false, .bool false, .int .i64 0, .int .i64 0, .int .i64 0, .bool false, .bool false, S [], .slice none 0 0]) (by kernel_rfl) (plA_get 2 17) [_, _] [_, _, _, _, _, _, _, _, _, _, _, _, _, _, _, _, _, _, _, _, _, _, _, _, _, _, _, _, _, _, _, _, _, _] rfl rfl rfl rfl rfl fun a v10_4 Z w hsub X H r10_4 h => ?_
 have rp1 := rp1.sub hsub
 have rp2 := rp2.sub hsub
 have r10_4 : RdN Z v10_4 nodeEnc [x1, x2] := ⟨_, r10_4, ⟨node_mk ⟨_, rfl, rp1⟩, node_mk ⟨_, rfl, rp2⟩, trivial⟩⟩
 refine s1 h rfl (v_build bld64 [.int .i64 7, .int .i64 x0, v10_4] [.int .i64 7, .int .i64 x0, .int .i64 0, .int .i64 0, S [], .int .i64 0, .int .i64 0, .int .i64 0, .bool false, .bool false, .int .i64 0, .int .i64 0, .int .i64 0, .bool false, .bool false, S [], v10_4] rfl (by obtain ⟨_, _, _, e_⟩ := (r10_4).form; subst e_; rfl)) fun a h => ?_
 refine z_store h H 2 rfl rfl rfl sizeOf64 [_, _, _, _, _, _, _, _, _, _, _, _, _, _, _, _, _] rfl rfl (by obtain ⟨_, _, _, e_⟩ := (r10_4).form; subst e_; rfl) (by simp) [_, _, _, _, _, _, _, _, _, _, _, _, _, _, _, _, _] rfl (hl' := [_, _, _]) rfl fun w H => ?_
 refine cN k h [6] [_] fun h => ?_
 cases hS
 refine r1 hr h rfl (rvA H 2 isAgg64 sizeOf64 [_, _, _, _, _, _, _, _, _, _, _, _, _, _, _, _, _]) ⟨_, rfl, r10_4.sub H.back, H.out⟩

theorem tree_Number_ok {x0 : List UInt8} {res : Int} {w0 : World} (hS : tree_Number x0 = some res) (hG : GW w0) : Calls Tryd.prog 31 [S x0].toArray w0 (Ret fun v w => v = .int .i64 res ∧ Ext w0 w) := by
 refine en func31 [0] [_] fun Q a Zi Z hzs H h hr => ?_
 clear hzs
 unfold tree_Number at hS
 refine rg fun K k => ?_
 refine cps 1 h rfl fun a h => ?_
 refine cz k ?_
 obtain ⟨J2, eJ2, hS⟩ := bv hS
 refine sqJ (fun a w => ∃ (Z : FZ) (s2 : Unit), J2 s2 = some res ∧ Fr 22 [] a ∧ HZ w0 Zi Z [] w) ?_ ?_
 rintro a w ⟨Z, s2, hS, h, H⟩
 subst eJ2
 refine rg fun K k => ?_
 refine cps 1 h rfl fun a h => ?_
 refine cz k ?_
 cases hS
 refine r1 hr h rfl rfl ⟨rfl, H.out⟩
 refine rg fun K k => ?_
 obtain ⟨c4, hS⟩ := ck hS
 obtain ⟨z5, e5, hS⟩ := bv hS
 refine z_callR (data := z5) h H rfl rfl rfl ((by rw [e5]; exact dC call50 (lib_fields c4 (hG.ext H.out)))) fun v5_6 Z w hsub X H r5_6 a h => ?_
 refine s1 h rfl (v_len underlying93 rfl (r5_6.at H.zin)) fun a h => ?_
 refine cps 1 h rfl fun a h => ?_
 refine cz k ?_
 refine lb ?_
 obtain ⟨B8, eB8, hS⟩ := bv hS
 refine lpJ (fun mu_ a w => ∃ (Z : FZ) (s8 : Int), loopF B8 mu_ s8 = some res ∧ Fr 22 [(0, S x0), (5, v5_6), (6, .int .i64 (z5.length : Int)), (7, .int .i64 s8)] a ∧ HZ w0 Zi Z [] w ∧ RdZ Z v5_6 1 eS z5) KK ⟨_, _, hS, h.to, H, r5_6⟩ ?_
 rintro mu_ a w ⟨Z, s8, hS, h, H, r5_6⟩
 obtain ⟨mu_, rfl, n8, en8, hS⟩ := lpX eB8 hS
 refine rg fun K k => ?_
 refine sB h hS rfl (v_lt rfl rfl) fun z10 e10 hS a h => ?_
 refine cz k ?_
 refine sq ?_
 refine cI h hS rfl (fun ec12 hS => ?_) fun ec12 hS => ?_
 refine c_skip ?_
 refine sb ?_
 refine rg fun K k => ?_
 refine cps 1 h rfl fun a h => ?_
 obtain ⟨c14, hS⟩ := ck hS
 obtain ⟨z15, e15, hS⟩ := bv hS
 refine st_idx h underlying93 sizeOf9 rfl rfl (r5_6.at H.zin) (fun _ => rfl) z15 c14.1 (by rw [e15]; exact gel_some c14) rfl fun a v10 A10 h => ?_
 refine s1 h rfl (v_loadAt1 rfl A10 isAgg9 rfl) fun a h => ?_
 refine cps 2 h rfl fun a h => ?_
 refine cN k h [0, 3, 4, 5, 6, 7] [_, _, _, _, _, _] fun h => ?_
 refine rg fun K k => ?_
 refine cps 2 h rfl fun a h => ?_
 refine s1 h rfl (v_slen underlying9 rfl) fun a h => ?_
 refine sI h hS rfl (v_subw rfl rfl) fun z16 e16 hS a h => ?_
 obtain ⟨c17, hS⟩ := ck hS
 refine sS h hS rfl (v_scutHi underlying9 rfl rfl c17) fun z18 e18 hS a h => ?_
 refine cps 1 h rfl fun a h => ?_
 refine sB h hS rfl (v_seq rfl rfl) fun z19 e19 hS a h => ?_
 refine cN k h [0, 3, 5, 6, 7, 18] [_, _, _, _, _, _] fun h => ?_
 refine cI h hS rfl (fun ec20 hS => ?_) fun ec20 hS => ?_
 refine rg fun K k => ?_
 refine cps 1 h rfl fun a h => ?_
 refine sI h hS rfl (v_addw rfl rfl) fun z21 e21 hS a h => ?_
 refine cps 1 h rfl fun a h => ?_
 refine cN k h [2] [_] fun h => ?_
 cases hS
 refine r1 hr h rfl rfl ⟨rfl, H.out⟩
 refine c_skip ?_
 refine c_lregion ?_
 refine sI h hS rfl (v_addw rfl rfl) fun z22 e22 hS a h => ?_
 refine cps 1 h rfl fun a h => ?_
 refine c_lnil ?_
 exact exL (ex2 ⟨lpN en8 hS, h.to, H, r5_6⟩)
 exact c_exit (exU1 ⟨hS, h.to, H⟩)

theorem tree_Name_ok {x0 : Int} {res : (List UInt8)} {w0 : World} (hS : tree_Name x0 = some res) (hG : GW w0) : Calls Tryd.prog 62 [.int .i64 x0].toArray w0 (Ret fun v w => v = S res ∧ Ext w0 w) := by
 refine en func62 [0] [_] fun Q a Zi Z hzs H h hr => ?_
 clear hzs
 unfold tree_Name at hS
 refine rg fun K k => ?_
 refine cps 1 h rfl fun a h => ?_
 refine cz k ?_
 refine rg fun K k => ?_
 obtain ⟨c2, hS⟩ := ck hS
 obtain ⟨z3, e3, hS⟩ := bv hS
 refine z_callR (data := z3) h H rfl rfl rfl ((by rw [e3]; exact dC call50 (lib_fields c2 (hG.ext H.out)))) fun v4_4 Z w hsub X H r4_4 a h => ?_
 refine cps 1 h rfl fun a h => ?_
 refine cz k ?_
 refine sq ?_
 refine rg fun K k => ?_
 refine cps 1 h rfl fun a h => ?_
 refine sB h hS rfl (v_lt rfl rfl) fun z6 e6 hS a h => ?_
 refine cps 1 h rfl fun a h => ?_
 refine st_g h rfl rfl (gF rfl) rfl rfl (fun e0 => v_move rfl) fun a h => ?_
 refine st_g h rfl rfl (gF rfl) rfl rfl (fun e0 => v_move rfl) fun a h => ?_
 refine st_g h rfl rfl (gF rfl) rfl rfl (fun e0 => v_len underlying93 (eg e0 rfl) (r4_4.at H.zin)) fun a h => ?_
 obtain ⟨z7, e7, hS⟩ := bv hS
 refine st_g h rfl rfl (gF rfl) rfl rfl (fun e0 => vB e7 (v_gt (eg e0 rfl) (eg e0 rfl))) fun a h => ?_
 refine sB h hS rfl (v_or rfl rfl) fun z8 e8 hS a h => ?_
 refine cN k h [0, 3, 12] [_, _, _] fun h => ?_
 refine cI h hS rfl (fun ec9 hS => ?_) fun ec9 hS => ?_
 refine rg fun K k => ?_
 refine cps 1 h rfl fun a h => ?_
 refine cz k ?_
 cases hS
 refine r1 hr h rfl rfl ⟨rfl, H.out⟩
 refine c_skip ?_
 refine fl h ?_
 refine fcps 2 rfl ?_
 refine fI hS rfl (fun w X => v_subw rfl rfl) fun z10 e10 hS => ?_
 obtain ⟨c11, hS⟩ := ck hS
 obtain ⟨z12, e12, hS⟩ := bv hS
 refine f_op [13, 15] rfl rfl rfl rfl false (.rel (fun w' v' => At w' v' eS z12 0)) at_stab (fun w X => ?_) ?_
 skip
 exact have H := H.ext X; d_idx underlying93 sizeOf9 rfl rfl (r4_4.at H.zin) (fun _ => rfl) z12 c11.1 (by rw [e12]; exact gel_some c11)
 refine f_op [16] rfl rfl rfl rfl false (.eq (S z12)) trivial (fun w X => ?_) ?_
 intro v16 h16
 exact (v_loadAt1 rfl h16 isAgg9 rfl).doesF
 refine fcps 2 rfl ?_
 refine fI hS rfl (fun w X => v_subw rfl rfl) fun z13 e13 hS => ?_
 obtain ⟨c14, hS⟩ := ck hS
 obtain ⟨z15, e15, hS⟩ := bv hS
 refine f_op [18, 20] rfl rfl rfl rfl false (.rel (fun w' v' => At w' v' eS z15 0)) at_stab (fun w X => ?_) ?_
 skip
 exact have H := H.ext X; d_idx underlying93 sizeOf9 rfl rfl (r4_4.at H.zin) (fun _ => rfl) z15 c14.1 (by rw [e15]; exact gel_some c14)
 refine f_op [21] rfl rfl rfl rfl false (.eq (S z15)) trivial (fun w X => ?_) ?_
 intro v21 h21
 exact (v_loadAt1 rfl h21 isAgg9 rfl).doesF
 refine F1 rfl (fun w X => v_slen underlying9 rfl) ?_
 refine fI hS rfl (fun w X => v_subw rfl rfl) fun z16 e16 hS => ?_
 obtain ⟨c17, hS⟩ := ck hS
 refine fS hS rfl (fun w X => v_scutHi underlying9 rfl rfl c17) fun z18 e18 hS => ?_
 refine fcps 1 rfl ?_
 refine fE [2] [_] H fun a w X H h => ?_
 cases hS
 refine r1 hr h rfl rfl ⟨rfl, H.out⟩

theorem num_Whole_ok {x0 : Int} {res : Int × Bool} {w0 : World} (hS : num_Whole x0 = some res) : Calls Tryd.prog 46 [.int .i64 x0].toArray w0 (Ret fun v w => v = .tuple #[.int .i64 res.1, .bool res.2] ∧ Ext w0 w) := by
 refine en func46 [0] [_] fun Q a Zi Z hzs H h hr => ?_
 clear hzs
 unfold num_Whole at hS
 refine rg fun K k => ?_
 refine cps 2 h rfl fun a h => ?_
 refine cz k ?_
 refine rg fun K k => ?_
 refine cps 1 h rfl fun a h => ?_
 refine sI h hS rfl (v_quow rfl rfl (by decide)) fun z1 e1 hS a h => ?_
 refine cps 1 h rfl fun a h => ?_
 refine sI h hS rfl (v_rem rfl rfl (by decide)) fun z2 e2 hS a h => ?_
 refine sB h hS rfl (v_eq rfl rfl) fun z3 e3 hS a h => ?_
 refine cps 2 h rfl fun a h => ?_
 refine cN k h [2, 3] [_, _] fun h => ?_
 cases hS
 refine r2 hr h rfl rfl rfl ⟨rfl, H.out⟩

theorem addr_Order_ok {x0 : C} {x1 : C} {res : C × C × Bool} {w0 : World} (hS : addr_Order x0 x1 = some res) : Calls Tryd.prog 61 [.agg #[.int .i64 x0.s, .int .i64 x0.c, .int .i64 x0.r], .agg #[.int .i64 x1.s, .int .i64 x1.c, .int .i64 x1.r]].toArray w0 (Ret fun v w => v = .tuple #[.agg #[.int .i64 res.1.s, .int .i64 res.1.c, .int .i64 res.1.r], .agg #[.int .i64 res.2.1.s, .int .i64 res.2.1.c, .int .i64 res.2.1.r], .bool res.2.2] ∧ Ext w0 w) := by
 refine en func61 [0, 1] [_, _] fun Q a Zi Z hzs H h hr => ?_
 clear hzs
 unfold addr_Order at hS
 refine rg fun K k => ?_
 refine z_box h H rfl [_, _, _] rfl rfl fun a p1 w X H h => ?_
 have H : HZ w0 _ _ [_] _ := H
 refine z_box h H rfl [_, _, _] rfl rfl fun a p2 w X H h => ?_
 have H : HZ w0 _ _ [_, _] _ := H
 refine zA h H zeroValue40 [_, _, _] (fun x => [_, _, x]) fun a p3 w X H h => ?_
 refine zA h H zeroValue40 [_, _, _] (fun x => [_, _, _, x]) fun a p4 w X H h => ?_
 refine cps 1 h rfl fun a h => ?_
 refine cz k ?_
 refine sq ?_
 refine rg fun K k => ?_
 refine s1 h rfl (v_fieldAddr rfl underlying40 rfl sizeOf3 rfl rfl) fun a h => ?_
 refine s1 h rfl (l1 H 0 isAgg3) fun a h => ?_
 refine s1 h rfl (v_fieldAddr rfl underlying40 rfl sizeOf3 rfl rfl) fun a h => ?_
 refine s1 h rfl (l1 H 1 isAgg3) fun a h => ?_
 refine sB h hS rfl (v_ne rfl rfl) fun z6 e6 hS a h => ?_
 refine cN k h [2, 3, 4, 5, 11] [_, _, _, _, _] fun h => ?_
 refine cI h hS rfl (fun ec7 hS => ?_) fun ec7 hS => ?_
 refine lt [2, 3] h H ?_
 refine L1 rfl (fun w X => have H := X; lA H 0 isAgg40 sizeOf40 [_, _, _]) ?_
 refine L1 rfl (fun w X => have H := X; lA H 1 isAgg40 sizeOf40 [_, _, _]) ?_
 refine LZ 2 sizeOf40 [_, _, _] [_, _, _] [_, _, _, _] ?_
 refine LZ 3 sizeOf40 [_, _, _] [_, _, _] [_, _, _, _] ?_
 refine lcps 1 rfl ?_
 refine lE [4, 5, 6] [_, _, _] fun a w H h => ?_
 have H : HZ w0 _ _ [_, _, _, _] _ := H
 cases hS
 refine r3 hr h rfl (rvA H 2 isAgg40 sizeOf40 [_, _, _]) (rvA H 3 isAgg40 sizeOf40 [_, _, _]) rfl ⟨rfl, H.out⟩
 refine c_skip ?_
 refine lt [2, 3] h H ?_
 refine L1 rfl (fun w X => v_fieldAddr rfl underlying40 rfl sizeOf3 rfl rfl) ?_
 refine L1 rfl (fun w X => have H := X; l1 H 0 isAgg3) ?_
 refine L1 rfl (fun w X => v_fieldAddr rfl underlying40 rfl sizeOf3 rfl rfl) ?_
 refine L1 rfl (fun w X => have H := X; l1 H 0 isAgg3) ?_
 refine L1 rfl (fun w X => v_fieldAddr rfl underlying40 rfl sizeOf3 rfl rfl) ?_
 refine L1 rfl (fun w X => have H := X; l1 H 1 isAgg3) ?_
 refine lI hS rfl (fun w X => v_min underlying3 rfl rfl) fun z8 e8 hS => ?_
 refine L1 rfl (fun w X => v_fieldAddr rfl underlying40 rfl sizeOf3 rfl rfl) ?_
 refine L1 rfl (fun w X => have H := X; l1 H 0 isAgg3) ?_
 refine L1 rfl (fun w X => v_fieldAddr rfl underlying40 rfl sizeOf3 rfl rfl) ?_
 refine L1 rfl (fun w X => have H := X; l1 H 1 isAgg3) ?_
 refine lI hS rfl (fun w X => v_min underlying3 rfl rfl) fun z9 e9 hS => ?_
 refine L1 rfl (fun w X => v_build bld40 [_, _, _] [_, _, _] rfl rfl) ?_
 refine L1 rfl (fun w X => v_fieldAddr rfl underlying40 rfl sizeOf3 rfl rfl) ?_
 refine L1 rfl (fun w X => have H := X; l1 H 0 isAgg3) ?_
 refine L1 rfl (fun w X => v_fieldAddr rfl underlying40 rfl sizeOf3 rfl rfl) ?_
 refine L1 rfl (fun w X => have H := X; l1 H 0 isAgg3) ?_
 refine L1 rfl (fun w X => v_fieldAddr rfl underlying40 rfl sizeOf3 rfl rfl) ?_
 refine L1 rfl (fun w X => have H := X; l1 H 1 isAgg3) ?_
 refine lI hS rfl (fun w X => v_max underlying3 rfl rfl) fun z10 e10 hS => ?_
 refine L1 rfl (fun w X => v_fieldAddr rfl underlying40 rfl sizeOf3 rfl rfl) ?_
 refine L1 rfl (fun w X => have H := X; l1 H 0 isAgg3) ?_
 refine L1 rfl (fun w X => v_fieldAddr rfl underlying40 rfl sizeOf3 rfl rfl) ?_
 refine L1 rfl (fun w X => have H := X; l1 H 1 isAgg3) ?_
 refine lI hS rfl (fun w X => v_max underlying3 rfl rfl) fun z11 e11 hS => ?_
 refine L1 rfl (fun w X => v_build bld40 [_, _, _] [_, _, _] rfl rfl) ?_
 refine LZ 2 sizeOf40 [_, _, _] [_, _, _] [_, _, _, _] ?_
 refine LZ 3 sizeOf40 [_, _, _] [_, _, _] [_, _, _, _] ?_
 refine lcps 1 rfl ?_
 refine lE [4, 5, 6] [_, _, _] fun a w H h => ?_
 have H : HZ w0 _ _ [_, _, _, _] _ := H
 cases hS
 refine r3 hr h rfl (rvA H 2 isAgg40 sizeOf40 [_, _, _]) (rvA H 3 isAgg40 sizeOf40 [_, _, _]) rfl ⟨rfl, H.out⟩

theorem reckonerref13_Place_Name_ok {x0 : List V} {x1 : List UInt8} {res : Nd × Bool} {w0 : World} (hS : reckonerref13_Place_Name x0 x1 = some res) {Z : FZ} (hZ : Z.inn w0) {pb0 : Nat} (hp0 : Z pb0 = some (Cel ((x0 : List V).flatMap vL) 58)) (lp0 : x0.length = 128) : Calls Tryd.prog 119 [.pointer (some ⟨pb0, 0, none⟩), S x1].toArray w0 (Ret fun v w => ∃ u1, v = .tuple #[.agg #[.int .i64 res.1.k, .int .i64 res.1.op, .int .i64 res.1.v.k, .int .i64 res.1.v.n, S res.1.v.s, .int .i64 res.1.a.c.s, .int .i64 res.1.a.c.c, .int .i64 res.1.a.c.r, .bool res.1.a.ac, .bool res.1.a.ar, .int .i64 res.1.b.c.s, .int .i64 res.1.b.c.c, .int .i64 res.1.b.c.r, .bool res.1.b.ac, .bool res.1.b.ar, S res.1.nm, u1], .bool res.2] ∧ RdN (ZB Z w0.heap.size w) u1 nodeEnc res.1.l ∧ Ext w0 w) := by
 refine enS hZ func119 [1] [_] fun Q a Zi eZi H h hr => ?_
 try rw [← eZi] at hr
 clear eZi
 unfold reckonerref13_Place_Name at hS
 refine rg fun K k => ?_
 refine zA h H zeroValue64 [_, _, _, _, _, _, _, _, _, _, _, _, _, _, _, _, _] (fun x => [x]) fun a p1 w X H h => ?_
 refine cps 1 h rfl fun a h => ?_
 refine cz k ?_
 refine rg fun K k => ?_
 refine s1 h rfl (v_build bld61 [] [_, _, _, _, _] rfl rfl) fun a h => ?_
 refine zA h H zeroValue61 [_, _, _, _, _] (fun x => [_, x]) fun a p2 w X H h => ?_
 refine zS h H 1 sizeOf61 [_, _, _, _, _] [_, _, _, _, _] [_, _] fun w H => ?_
 refine cz k ?_
 refine rg fun K k => ?_
 refine s1 h rfl (v_fieldAddr rfl underlying61 rfl sizeOf40 rfl rfl) fun a h => ?_
 refine s1 h rfl (v_fieldAddr rfl underlying40 rfl sizeOf3 rfl rfl) fun a h => ?_
 refine zS h H 1 sizeOf3 [_] [_, _, _, _, _] [_, _] fun w H => ?_
 refine cN k h [1, 4, 6] [_, _, _] fun h => ?_
 refine rg fun K k => ?_
 refine s1 h rfl (v_fieldAddr rfl underlying61 rfl sizeOf40 rfl rfl) fun a h => ?_
 refine s1 h rfl (v_fieldAddr rfl underlying40 rfl sizeOf3 rfl rfl) fun a h => ?_
 refine zS h H 1 sizeOf3 [_] [_, _, _, _, _] [_, _] fun w H => ?_
 refine cz k ?_
 refine sq ?_
 refine rg fun K k => ?_
 refine cps 1 h rfl fun a h => ?_
 refine sB h hS rfl (v_seq rfl rfl) fun z4 e4 hS a h => ?_
 refine cz k ?_
 refine cI h hS rfl (fun ec5 hS => ?_) fun ec5 hS => ?_
 refine rg fun K k => ?_
 refine s1 h rfl (v_build bld64 [_] [_, _, _, _, _, _, _, _, _, _, _, _, _, _, _, _, _] rfl rfl) fun a h => ?_
 refine zS h H 0 sizeOf64 [_, _, _, _, _, _, _, _, _, _, _, _, _, _, _, _, _] [_, _, _, _, _, _, _, _, _, _, _, _, _, _, _, _, _] [_, _] fun w H => ?_
 refine cps 1 h rfl fun a h => ?_
 refine cN k h [4, 5] [_, _] fun h => ?_
 cases hS
 refine r2 hr h rfl (rvA H 0 isAgg64 sizeOf64 [_, _, _, _, _, _, _, _, _, _, _, _, _, _, _, _, _]) rfl ⟨_, rfl, RdN.nil, H.out⟩
 refine c_skip ?_
 refine cO h [1, 4, 6] [_, _, _] fun h => ?_
 refine sq ?_
 refine rg fun K k => ?_
 refine cps 1 h rfl fun a h => ?_
 refine sB h hS rfl (v_seq rfl rfl) fun z7 e7 hS a h => ?_
 refine cz k ?_
 refine cI h hS rfl (fun ec8 hS => ?_) fun ec8 hS => ?_
 refine rg fun K k => ?_
 refine s1 h rfl (lA H 1 isAgg61 sizeOf61 [_, _, _, _, _]) fun a h => ?_
 refine s1 h rfl (v_build bld64 [_, _] [_, _, _, _, _, _, _, _, _, _, _, _, _, _, _, _, _] rfl rfl) fun a h => ?_
 refine zS h H 0 sizeOf64 [_, _, _, _, _, _, _, _, _, _, _, _, _, _, _, _, _] [_, _, _, _, _, _, _, _, _, _, _, _, _, _, _, _, _] [_, _] fun w H => ?_
 refine cps 1 h rfl fun a h => ?_
 refine cN k h [4, 5] [_, _] fun h => ?_
 cases hS
 refine r2 hr h rfl (rvA H 0 isAgg64 sizeOf64 [_, _, _, _, _, _, _, _, _, _, _, _, _, _, _, _, _]) rfl ⟨_, rfl, RdN.nil, H.out⟩
 refine c_skip ?_
 refine cO h [4] [_] fun h => ?_
 refine rg fun K k => ?_
 refine s1 h rfl (v_build bld64 [] [_, _, _, _, _, _, _, _, _, _, _, _, _, _, _, _, _] rfl rfl) fun a h => ?_
 refine zS h H 0 sizeOf64 [_, _, _, _, _, _, _, _, _, _, _, _, _, _, _, _, _] [_, _, _, _, _, _, _, _, _, _, _, _, _, _, _, _, _] [_, _] fun w H => ?_
 refine cps 1 h rfl fun a h => ?_
 refine cz k ?_
 cases hS
 refine r2 hr h rfl (rvA H 0 isAgg64 sizeOf64 [_, _, _, _, _, _, _, _, _, _, _, _, _, _, _, _, _]) rfl ⟨_, rfl, RdN.nil, H.out⟩

theorem eval_Area_ok {x0 : List V} {x1 : Nd} {res : C × C × Bool} {w0 : World} (hS : eval_Area x0 x1 = some res) {Z : FZ} (hZ : Z.inn w0) {xv1 : Value} (rp1 : RdN Z xv1 nodeEnc x1.l) {pb0 : Nat} (hp0 : Z pb0 = some (Cel ((x0 : List V).flatMap vL) 58)) (lp0 : x0.length = 128) : Calls Tryd.prog 47 [.iface 52 (.pointer (some ⟨pb0, 0, none⟩)), .agg #[.int .i64 x1.k, .int .i64 x1.op, .int .i64 x1.v.k, .int .i64 x1.v.n, S x1.v.s, .int .i64 x1.a.c.s, .int .i64 x1.a.c.c, .int .i64 x1.a.c.r, .bool x1.a.ac, .bool x1.a.ar, .int .i64 x1.b.c.s, .int .i64 x1.b.c.c, .int .i64 x1.b.c.r, .bool x1.b.ac, .bool x1.b.ar, S x1.nm, xv1]].toArray w0 (Ret fun v w => v = .tuple #[.agg #[.int .i64 res.1.s, .int .i64 res.1.c, .int .i64 res.1.r], .agg #[.int .i64 res.2.1.s, .int .i64 res.2.1.c, .int .i64 res.2.1.r], .bool res.2.2] ∧ Ext w0 w) := by
 refine enS hZ func47 [0, 1] [_, _] fun Q a Zi eZi H h hr => ?_
 try rw [← eZi] at hr
 clear eZi
 unfold eval_Area at hS
 refine rg fun K k => ?_
 refine z_box h H rfl [_, _, _, _, _, _, _, _, _, _, _, _, _, _, _, _, _] rfl rfl fun a p1 w X H h => ?_
 have H : HZ w0 _ _ [_] _ := H
 refine zA h H zeroValue40 [_, _, _] (fun x => [_, x]) fun a p2 w X H h => ?_
 refine zA h H zeroValue40 [_, _, _] (fun x => [_, _, x]) fun a p3 w X H h => ?_
 refine cps 1 h rfl fun a h => ?_
 refine cz k ?_
 obtain ⟨J5, eJ5, hS⟩ := bv hS
 refine sqJ (fun a w => ∃ (Z : FZ) (s5 : Int × Int × Int × Int × (List UInt8) × Int × Int × Int × Bool × Bool × Int × Int × Int × Bool × Bool × (List UInt8) × (List (Nd))) (v0_16_6 : Value), J5 s5 = some res ∧ Fr 45 [(3, .pointer (some ⟨p1, 0, none⟩)), (4, .pointer (some ⟨p2, 0, none⟩)), (5, .pointer (some ⟨p3, 0, none⟩))] a ∧ HZ w0 Zi Z [.blk p1 (Cel [.int .i64 s5.1, .int .i64 s5.2.1, .int .i64 s5.2.2.1, .int .i64 s5.2.2.2.1, S s5.2.2.2.2.1, .int .i64 s5.2.2.2.2.2.1, .int .i64 s5.2.2.2.2.2.2.1, .int .i64 s5.2.2.2.2.2.2.2.1, .bool s5.2.2.2.2.2.2.2.2.1, .bool s5.2.2.2.2.2.2.2.2.2.1, .int .i64 s5.2.2.2.2.2.2.2.2.2.2.1, .int .i64 s5.2.2.2.2.2.2.2.2.2.2.2.1, .int .i64 s5.2.2.2.2.2.2.2.2.2.2.2.2.1, .bool s5.2.2.2.2.2.2.2.2.2.2.2.2.2.1, .bool s5.2.2.2.2.2.2.2.2.2.2.2.2.2.2.1, S s5.2.2.2.2.2.2.2.2.2.2.2.2.2.2.2.1, v0_16_6] 64), .blk p2 (Cel [.int .i64 0, .int .i64 0, .int .i64 0] 40), .blk p3 (Cel [.int .i64 0, .int .i64 0, .int .i64 0] 40)] w ∧ RdN Z v0_16_6 nodeEnc s5.2.2.2.2.2.2.2.2.2.2.2.2.2.2.2.2 ∧ Z pb0 = some (Cel ((x0 : List V).flatMap vL) 58)) ?_ ?_
 rintro a w ⟨Z, s5, v0_16_6, hS, h, H, r0_16_6, hp0⟩
 subst eJ5
 refine sq ?_
 refine rg fun K k => ?_
 refine s1 h rfl (v_fieldAddr rfl underlying64 rfl sizeOf3 rfl rfl) fun a h => ?_
 refine s1 h rfl (l1 H 0 isAgg3) fun a h => ?_
 refine cz k ?_
 refine lb ?_
 refine rg fun K k => ?_
 refine sB h hS rfl (v_eq rfl rfl) fun z9 e9 hS a h => ?_
 refine cps 1 h rfl fun a h => ?_
 refine cz k ?_
 refine cI h hS rfl (fun ec10 hS => ?_) fun ec10 hS => ?_
 refine rg fun K k => ?_
 refine s1 h rfl (v_fieldAddr rfl underlying64 rfl sizeOf61 rfl rfl) fun a h => ?_
 refine s1 h rfl (v_fieldAddr rfl underlying61 rfl sizeOf40 rfl rfl) fun a h => ?_
 refine s1 h rfl (lA H 0 isAgg40 sizeOf40 [_, _, _]) fun a h => ?_
 refine s1 h rfl (v_fieldAddr rfl underlying64 rfl sizeOf61 rfl rfl) fun a h => ?_
 refine s1 h rfl (v_fieldAddr rfl underlying61 rfl sizeOf40 rfl rfl) fun a h => ?_
 refine s1 h rfl (lA H 0 isAgg40 sizeOf40 [_, _, _]) fun a h => ?_
 refine sC h H hS rfl (fun y11 f11 => dC call61 (addr_Order_ok f11 :)) fun y11 hS w X H a h => ?_
 refine cps 3 h rfl fun a h => ?_
 refine zS h H 1 sizeOf40 [_, _, _] [_, _, _] [_, _, _] fun w H => ?_
 refine zS h H 2 sizeOf40 [_, _, _] [_, _, _] [_, _, _] fun w H => ?_
 refine cps 1 h rfl fun a h => ?_
 refine cN k h [4, 5, 6] [_, _, _] fun h => ?_
 cases hS
 refine r3 hr h rfl (rvA H 1 isAgg40 sizeOf40 [_, _, _]) (rvA H 2 isAgg40 sizeOf40 [_, _, _]) rfl ⟨rfl, H.out⟩
 refine rg fun K k => ?_
 refine sB h hS rfl (v_eq rfl rfl) fun z12 e12 hS a h => ?_
 refine cps 1 h rfl fun a h => ?_
 refine cN k h [3, 4, 5, 35] [_, _, _, _] fun h => ?_
 refine cI h hS rfl (fun ec13 hS => ?_) fun ec13 hS => ?_
 refine lt [1, 2] h H ?_
 refine L1 rfl (fun w X => v_fieldAddr rfl underlying64 rfl sizeOf61 rfl rfl) ?_
 refine L1 rfl (fun w X => v_fieldAddr rfl underlying61 rfl sizeOf40 rfl rfl) ?_
 refine L1 rfl (fun w X => have H := X; lA H 0 isAgg40 sizeOf40 [_, _, _]) ?_
 refine L1 rfl (fun w X => v_fieldAddr rfl underlying64 rfl sizeOf61 rfl rfl) ?_
 refine L1 rfl (fun w X => v_fieldAddr rfl underlying61 rfl sizeOf40 rfl rfl) ?_
 refine L1 rfl (fun w X => have H := X; lA H 0 isAgg40 sizeOf40 [_, _, _]) ?_
 refine LZ 1 sizeOf40 [_, _, _] [_, _, _] [_, _, _] ?_
 refine LZ 2 sizeOf40 [_, _, _] [_, _, _] [_, _, _] ?_
 refine lcps 1 rfl ?_
 refine lE [4, 5, 6] [_, _, _] fun a w H h => ?_
 have H : HZ w0 _ _ [_, _, _] _ := H
 cases hS
 refine r3 hr h rfl (rvA H 1 isAgg40 sizeOf40 [_, _, _]) (rvA H 2 isAgg40 sizeOf40 [_, _, _]) rfl ⟨rfl, H.out⟩
 refine c_skip ?_
 refine rg fun K k => ?_
 refine s1 h rfl (v_build bld40 [] [_, _, _] rfl rfl) fun a h => ?_
 refine s1 h rfl (v_build bld40 [] [_, _, _] rfl rfl) fun a h => ?_
 refine zS h H 1 sizeOf40 [_, _, _] [_, _, _] [_, _, _] fun w H => ?_
 refine zS h H 2 sizeOf40 [_, _, _] [_, _, _] [_, _, _] fun w H => ?_
 refine cps 1 h rfl fun a h => ?_
 refine cN k h [4, 5, 6] [_, _, _] fun h => ?_
 cases hS
 refine r3 hr h rfl (rvA H 1 isAgg40 sizeOf40 [_, _, _]) (rvA H 2 isAgg40 sizeOf40 [_, _, _]) rfl ⟨rfl, H.out⟩
 refine rg fun K k => ?_
 refine s1 h rfl (v_fieldAddr rfl underlying64 rfl sizeOf3 rfl rfl) fun a h => ?_
 refine s1 h rfl (l1 H 0 isAgg3) fun a h => ?_
 refine sB h hS rfl (v_eq rfl rfl) fun z14 e14 hS a h => ?_
 refine cN k h [0, 3, 4, 5, 11] [_, _, _, _, _] fun h => ?_
 refine cI h hS rfl (fun ec15 hS => ?_) fun ec15 hS => ?_
 refine rg fun K k => ?_
 refine cps 1 h rfl fun a h => ?_
 refine s1 h rfl (v_fieldAddr rfl underlying64 rfl sizeOf9 rfl rfl) fun a h => ?_
 refine s1 h rfl (l1 H 0 isAgg9) fun a h => ?_
 obtain ⟨y16, f16, hS⟩ := bo hS
 refine st2 h rfl rfl rfl (d_invoke [_] ifm_Name rfl rfl (reckonerref13_Place_Name_ok f16 H.zin hp0 lp0)) ?_
 rintro v_ w ⟨v16_17_1, rfl, r16_17_1, X⟩ a h
 obtain ⟨Z, hsub, hadd, H⟩ := H.adopt' X
 have rp1 := rp1.sub hsub
 have hp0 := hsub _ _ hp0
 have r16_17_1 := r16_17_1.sub hadd
 refine cps 3 h rfl fun a h => ?_
 refine zA h H zeroValue64 [_, _, _, _, _, _, _, _, _, _, _, _, _, _, _, _, _] (fun x => [_, _, _, x]) fun a p18 w X H h => ?_
 refine z_store h H 3 rfl rfl rfl sizeOf64 [_, _, _, _, _, _, _, _, _, _, _, _, _, _, _, _, _] rfl rfl (by obtain ⟨_, _, _, e_⟩ := (r16_17_1).form; subst e_; rfl) (by simp) [_, _, _, _, _, _, _, _, _, _, _, _, _, _, _, _, _] rfl (hl' := [_, _, _, _]) rfl fun w H => ?_
 refine cps 1 h rfl fun a h => ?_
 refine cN k h [3, 4, 5, 7, 8] [_, _, _, _, _] fun h => ?_
 refine rg fun K k => ?_
 refine cps 1 h rfl fun a h => ?_
 refine cz k ?_
 refine cI h hS rfl (fun ec19 hS => ?_) fun ec19 hS => ?_
 refine c_lregion ?_
 refine s1 h rfl (lA H 3 isAgg64 sizeOf64 [_, _, _, _, _, _, _, _, _, _, _, _, _, _, _, _, _]) fun a h => ?_
 refine z_store h H 0 rfl rfl rfl sizeOf64 [_, _, _, _, _, _, _, _, _, _, _, _, _, _, _, _, _] rfl rfl (by obtain ⟨_, _, _, e_⟩ := (r16_17_1).form; subst e_; rfl) (by simp) [_, _, _, _, _, _, _, _, _, _, _, _, _, _, _, _, _] rfl (hl' := [_, _, _, _]) rfl fun w H => ?_
 refine c_lnil ?_
 exact ex3 ⟨hS, h.to, (H.keepN 3 rfl), r16_17_1, hp0⟩
 exact c_skip (ex3 ⟨hS, h.to, (H.keepN 3 rfl), rp1, hp0⟩)
 exact c_skip (ex3 ⟨hS, h.to, H, rp1, hp0⟩)
end Go.Proofs.YtlpfcclecmalhaaDoor
