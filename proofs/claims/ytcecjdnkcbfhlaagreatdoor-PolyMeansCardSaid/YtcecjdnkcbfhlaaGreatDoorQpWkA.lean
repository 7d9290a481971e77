/- Joined texts. -/
import Derived.Test.YtcecjdnkcbfhlaaGreatDoorQS0
import Derived.Test.YtcecjdnkcbfhlaaGreatDoorQpLibC
set_option linter.unusedSimpArgs false
set_option linter.unusedVariables false
set_option linter.unusedSectionVars false
namespace Go.Proofs.YtcecjdnkcbfhlaaGreatDoor
open Go.Stp Go.RowKit Go.ValP Go.Sp _root_.Go.Proofs.Tryz
set_option maxRecDepth 100000
theorem value_Num_ok {x0 : Int} {res : V} {w0 : World} (hS : value_Num x0 = some res) : Calls Tryz.prog 14 [.int .i64 x0].toArray w0 (Ret fun v w => v = .agg #[.int .i64 res.k, .int .i64 res.n, S res.s] ∧ Ext w0 w) := by
 refine en func14 [0] [_] fun Q a Zi Z hzs H h hr => ?_
 clear hzs
 unfold value_Num at hS
 refine rg fun K k => ?_
 refine zA h H zeroValue26 [_, _, _] (fun x => [x]) fun a p1 w X H h => ?_
 refine cz k ?_
 refine rg fun K k => ?_
 refine cps 1 h rfl fun a h => ?_
 refine s1 h rfl (v_build bld26 [_, _] [_, _, _] rfl rfl) fun a h => ?_
 refine zS h H 0 sizeOf26 [_, _, _] [_, _, _] [_] fun w H => ?_
 refine cz k ?_
 cases hS
 refine r1 hr h rfl (rvA H 0 isAgg26 sizeOf26 [_, _, _]) ⟨rfl, H.out⟩
theorem value_Fail_ok {x0 : Int} {res : V} {w0 : World} (hS : value_Fail x0 = some res) : Calls Tryz.prog 21 [.int .i64 x0].toArray w0 (Ret fun v w => v = .agg #[.int .i64 res.k, .int .i64 res.n, S res.s] ∧ Ext w0 w) := by
 refine en func21 [0] [_] fun Q a Zi Z hzs H h hr => ?_
 clear hzs
 unfold value_Fail at hS
 refine rg fun K k => ?_
 refine zA h H zeroValue26 [_, _, _] (fun x => [x]) fun a p1 w X H h => ?_
 refine cz k ?_
 refine rg fun K k => ?_
 refine cps 1 h rfl fun a h => ?_
 refine s1 h rfl (v_build bld26 [_, _] [_, _, _] rfl rfl) fun a h => ?_
 refine zS h H 0 sizeOf26 [_, _, _] [_, _, _] [_] fun w H => ?_
 refine cz k ?_
 cases hS
 refine r1 hr h rfl (rvA H 0 isAgg26 sizeOf26 [_, _, _]) ⟨rfl, H.out⟩
theorem value_Bool_ok {x0 : Bool} {res : V} {w0 : World} (hS : value_Bool x0 = some res) : Calls Tryz.prog 24 [.bool x0].toArray w0 (Ret fun v w => v = .agg #[.int .i64 res.k, .int .i64 res.n, S res.s] ∧ Ext w0 w) := by
 refine en func24 [0] [_] fun Q a Zi Z hzs H h hr => ?_
 clear hzs
 unfold value_Bool at hS
 refine rg fun K k => ?_
 refine zA h H zeroValue26 [_, _, _] (fun x => [x]) fun a p1 w X H h => ?_
 refine cz k ?_
 refine rg fun K k => ?_
 refine s1 h rfl (v_build bld26 [_] [_, _, _] rfl rfl) fun a h => ?_
 refine zA h H zeroValue26 [_, _, _] (fun x => [_, x]) fun a p2 w X H h => ?_
 refine zS h H 1 sizeOf26 [_, _, _] [_, _, _] [_, _] fun w H => ?_
 refine cz k ?_
 obtain ⟨J4, eJ4, hS⟩ := bv hS
 refine sqJ (fun a w => ∃ (Z : FZ) (s4 : Int), J4 s4 = some res ∧ Fr 8 [(2, .pointer (some ⟨p1, 0, none⟩)), (3, .pointer (some ⟨p2, 0, none⟩))] a ∧ HZ w0 Zi Z [.blk p1 (Cel [.int .i64 0, .int .i64 0, S []] 26), .blk p2 (Cel [.int .i64 3, .int .i64 s4, S []] 26)] w) ?_ ?_
 rintro a w ⟨Z, s4, hS, h, H⟩
 subst eJ4
 refine rg fun K k => ?_
 refine s1 h rfl (lA H 1 isAgg26 sizeOf26 [_, _, _]) fun a h => ?_
 refine zS h H 0 sizeOf26 [_, _, _] [_, _, _] [_, _] fun w H => ?_
 refine cz k ?_
 cases hS
 refine r1 hr h rfl (rvA H 0 isAgg26 sizeOf26 [_, _, _]) ⟨rfl, H.out⟩
 refine rg fun K k => ?_
 refine cps 1 h rfl fun a h => ?_
 refine cz k ?_
 refine cI h hS rfl (fun ec5 hS => ?_) fun ec5 hS => ?_
 refine c_lregion ?_
 refine s1 h rfl (v_fieldAddr rfl underlying26 rfl sizeOf2 rfl rfl) fun a h => ?_
 refine zS h H 1 sizeOf2 [_] [_, _, _] [_, _] fun w H => ?_
 refine c_lnil ?_
 exact ex2 ⟨hS, h.to, H⟩
 exact c_skip (ex2 ⟨hS, h.to, H⟩)
theorem value_Text_ok {x0 : List UInt8} {res : V} {w0 : World} (hS : value_Text x0 = some res) : Calls Tryz.prog 28 [S x0].toArray w0 (Ret fun v w => v = .agg #[.int .i64 res.k, .int .i64 res.n, S res.s] ∧ Ext w0 w) := by
 refine en func28 [0] [_] fun Q a Zi Z hzs H h hr => ?_
 clear hzs
 unfold value_Text at hS
 refine rg fun K k => ?_
 refine zA h H zeroValue26 [_, _, _] (fun x => [x]) fun a p1 w X H h => ?_
 refine cz k ?_
 refine sq ?_
 refine rg fun K k => ?_
 refine cps 1 h rfl fun a h => ?_
 refine s1 h rfl (v_slen underlying9 rfl) fun a h => ?_
 refine sB h hS rfl (v_gt rfl rfl) fun z3 e3 hS a h => ?_
 refine cz k ?_
 refine cI h hS rfl (fun ec4 hS => ?_) fun ec4 hS => ?_
 refine rg fun K k => ?_
 refine sC h H hS rfl (fun y5 f5 => dC call21 (value_Fail_ok f5 :)) fun y5 hS w X H a h => ?_
 refine zS h H 0 sizeOf26 [_, _, _] [_, _, _] [_] fun w H => ?_
 refine cN k h [2] [_] fun h => ?_
 cases hS
 refine r1 hr h rfl (rvA H 0 isAgg26 sizeOf26 [_, _, _]) ⟨rfl, H.out⟩
 refine c_skip ?_
 refine rg fun K k => ?_
 refine cps 1 h rfl fun a h => ?_
 refine s1 h rfl (v_build bld26 [_, _] [_, _, _] rfl rfl) fun a h => ?_
 refine zS h H 0 sizeOf26 [_, _, _] [_, _, _] [_] fun w H => ?_
 refine cN k h [2] [_] fun h => ?_
 cases hS
 refine r1 hr h rfl (rvA H 0 isAgg26 sizeOf26 [_, _, _]) ⟨rfl, H.out⟩
theorem value_Made_ok {x0 : Int} {x1 : Bool} {res : V} {w0 : World} (hS : value_Made x0 x1 = some res) : Calls Tryz.prog 116 [.int .i64 x0, .bool x1].toArray w0 (Ret fun v w => v = .agg #[.int .i64 res.k, .int .i64 res.n, S res.s] ∧ Ext w0 w) := by
 refine en func116 [0, 1] [_, _] fun Q a Zi Z hzs H h hr => ?_
 clear hzs
 unfold value_Made at hS
 refine rg fun K k => ?_
 refine zA h H zeroValue26 [_, _, _] (fun x => [x]) fun a p1 w X H h => ?_
 refine cz k ?_
 refine sq ?_
 refine rg fun K k => ?_
 refine cps 1 h rfl fun a h => ?_
 refine sB h hS rfl (v_not rfl) fun z3 e3 hS a h => ?_
 refine cz k ?_
 refine cI h hS rfl (fun ec4 hS => ?_) fun ec4 hS => ?_
 refine rg fun K k => ?_
 refine sC h H hS rfl (fun y5 f5 => dC call21 (value_Fail_ok f5 :)) fun y5 hS w X H a h => ?_
 refine zS h H 0 sizeOf26 [_, _, _] [_, _, _] [_] fun w H => ?_
 refine cN k h [4] [_] fun h => ?_
 cases hS
 refine r1 hr h rfl (rvA H 0 isAgg26 sizeOf26 [_, _, _]) ⟨rfl, H.out⟩
 refine c_skip ?_
 refine rg fun K k => ?_
 refine cps 1 h rfl fun a h => ?_
 refine sC h H hS rfl (fun y6 f6 => dC call14 (value_Num_ok f6 :)) fun y6 hS w X H a h => ?_
 refine zS h H 0 sizeOf26 [_, _, _] [_, _, _] [_] fun w H => ?_
 refine cN k h [4] [_] fun h => ?_
 cases hS
 refine r1 hr h rfl (rvA H 0 isAgg26 sizeOf26 [_, _, _]) ⟨rfl, H.out⟩
theorem value_Right_ok {x0 : V} {res : Bool} {w0 : World} (hS : value_Right x0 = some res) : Calls Tryz.prog 63 [.agg #[.int .i64 x0.k, .int .i64 x0.n, S x0.s]].toArray w0 (Ret fun v w => v = .bool res ∧ Ext w0 w) := by
 refine en func63 [0] [_] fun Q a Zi Z hzs H h hr => ?_
 clear hzs
 unfold value_Right at hS
 refine rg fun K k => ?_
 refine z_box h H rfl [_, _, _] rfl rfl fun a p1 w X H h => ?_
 have H : HZ w0 _ _ [_] _ := H
 refine cps 1 h rfl fun a h => ?_
 refine cz k ?_
 refine sq ?_
 refine rg fun K k => ?_
 refine s1 h rfl (v_fieldAddr rfl underlying26 rfl sizeOf3 rfl rfl) fun a h => ?_
 refine s1 h rfl (l1 H 0 isAgg3) fun a h => ?_
 refine cz k ?_
 refine lb ?_
 refine rg fun K k => ?_
 refine sB h hS rfl (v_eq rfl rfl) fun z4 e4 hS a h => ?_
 refine cps 1 h rfl fun a h => ?_
 refine cN k h [1, 4, 5] [_, _, _] fun h => ?_
 refine cI h hS rfl (fun ec5 hS => ?_) fun ec5 hS => ?_
 refine rg fun K k => ?_
 refine s1 h rfl (v_fieldAddr rfl underlying26 rfl sizeOf2 rfl rfl) fun a h => ?_
 refine s1 h rfl (l1 H 0 isAgg2) fun a h => ?_
 refine sB h hS rfl (v_eq rfl rfl) fun z6 e6 hS a h => ?_
 refine cps 1 h rfl fun a h => ?_
 refine st_g h rfl rfl (gT rfl) rfl rfl (fun e0 => v_fieldAddr rfl underlying26 rfl sizeOf9 rfl rfl) fun a h => ?_
 refine st_g h rfl rfl (gT rfl) rfl rfl (fun e0 => v_load1 (eg e0 rfl) isAgg9 (H.hp.get 0 rfl) rfl) fun a h => ?_
 obtain ⟨z7, e7, hS⟩ := bv hS
 refine st_g h rfl rfl (gT rfl) rfl rfl (fun e0 => vB e7 (v_seq (eg e0 rfl) rfl)) fun a h => ?_
 refine sB h hS rfl (v_and rfl rfl) fun z8 e8 hS a h => ?_
 refine cps 1 h rfl fun a h => ?_
 refine cN k h [2] [_] fun h => ?_
 cases hS
 refine r1 hr h rfl rfl ⟨rfl, H.out⟩
 refine rg fun K k => ?_
 refine sB h hS rfl (v_eq rfl rfl) fun z9 e9 hS a h => ?_
 refine cps 1 h rfl fun a h => ?_
 refine cz k ?_
 refine cI h hS rfl (fun ec10 hS => ?_) fun ec10 hS => ?_
 refine rg fun K k => ?_
 refine s1 h rfl (v_fieldAddr rfl underlying26 rfl sizeOf2 rfl rfl) fun a h => ?_
 refine s1 h rfl (l1 H 0 isAgg2) fun a h => ?_
 refine sB h hS rfl (v_ne rfl rfl) fun z11 e11 hS a h => ?_
 refine cps 1 h rfl fun a h => ?_
 refine st_g h rfl rfl (gT rfl) rfl rfl (fun e0 => v_fieldAddr rfl underlying26 rfl sizeOf9 rfl rfl) fun a h => ?_
 refine st_g h rfl rfl (gT rfl) rfl rfl (fun e0 => v_load1 (eg e0 rfl) isAgg9 (H.hp.get 0 rfl) rfl) fun a h => ?_
 obtain ⟨z12, e12, hS⟩ := bv hS
 refine st_g h rfl rfl (gT rfl) rfl rfl (fun e0 => vB e12 (v_seq (eg e0 rfl) rfl)) fun a h => ?_
 refine sB h hS rfl (v_and rfl rfl) fun z13 e13 hS a h => ?_
 refine cps 1 h rfl fun a h => ?_
 refine cN k h [2] [_] fun h => ?_
 cases hS
 refine r1 hr h rfl rfl ⟨rfl, H.out⟩
 refine rg fun K k => ?_
 refine sB h hS rfl (v_eq rfl rfl) fun z14 e14 hS a h => ?_
 refine cps 1 h rfl fun a h => ?_
 refine cN k h [1, 4, 25] [_, _, _] fun h => ?_
 refine cI h hS rfl (fun ec15 hS => ?_) fun ec15 hS => ?_
 refine rg fun K k => ?_
 refine s1 h rfl (v_fieldAddr rfl underlying26 rfl sizeOf2 rfl rfl) fun a h => ?_
 refine s1 h rfl (l1 H 0 isAgg2) fun a h => ?_
 refine sB h hS rfl (v_eq rfl rfl) fun z16 e16 hS a h => ?_
 refine cps 1 h rfl fun a h => ?_
 refine st_g h rfl rfl (gT rfl) rfl rfl (fun e0 => v_fieldAddr rfl underlying26 rfl sizeOf9 rfl rfl) fun a h => ?_
 refine st_g h rfl rfl (gT rfl) rfl rfl (fun e0 => v_load1 (eg e0 rfl) isAgg9 (H.hp.get 0 rfl) rfl) fun a h => ?_
 refine st_g h rfl rfl (gT rfl) rfl rfl (fun e0 => v_slen underlying9 (eg e0 rfl)) fun a h => ?_
 obtain ⟨z17, e17, hS⟩ := bv hS
 refine st_g h rfl rfl (gT rfl) rfl rfl (fun e0 => vB e17 (v_le (eg e0 rfl) rfl)) fun a h => ?_
 refine sB h hS rfl (v_and rfl rfl) fun z18 e18 hS a h => ?_
 refine cps 1 h rfl fun a h => ?_
 refine cN k h [2] [_] fun h => ?_
 cases hS
 refine r1 hr h rfl rfl ⟨rfl, H.out⟩
 refine rg fun K k => ?_
 refine sB h hS rfl (v_eq rfl rfl) fun z19 e19 hS a h => ?_
 refine cps 1 h rfl fun a h => ?_
 refine cz k ?_
 refine cI h hS rfl (fun ec20 hS => ?_) fun ec20 hS => ?_
 refine rg fun K k => ?_
 refine s1 h rfl (v_fieldAddr rfl underlying26 rfl sizeOf2 rfl rfl) fun a h => ?_
 refine s1 h rfl (l1 H 0 isAgg2) fun a h => ?_
 refine sI h hS rfl (v_bits_and rfl rfl) fun z21 e21 hS a h => ?_
 refine s1 h rfl (v_fieldAddr rfl underlying26 rfl sizeOf2 rfl rfl) fun a h => ?_
 refine s1 h rfl (l1 H 0 isAgg2) fun a h => ?_
 refine sB h hS rfl (v_eq rfl rfl) fun z22 e22 hS a h => ?_
 refine cps 1 h rfl fun a h => ?_
 refine st_g h rfl rfl (gT rfl) rfl rfl (fun e0 => v_fieldAddr rfl underlying26 rfl sizeOf9 rfl rfl) fun a h => ?_
 refine st_g h rfl rfl (gT rfl) rfl rfl (fun e0 => v_load1 (eg e0 rfl) isAgg9 (H.hp.get 0 rfl) rfl) fun a h => ?_
 obtain ⟨z23, e23, hS⟩ := bv hS
 refine st_g h rfl rfl (gT rfl) rfl rfl (fun e0 => vB e23 (v_seq (eg e0 rfl) rfl)) fun a h => ?_
 refine sB h hS rfl (v_and rfl rfl) fun z24 e24 hS a h => ?_
 refine cps 1 h rfl fun a h => ?_
 refine cN k h [2] [_] fun h => ?_
 cases hS
 refine r1 hr h rfl rfl ⟨rfl, H.out⟩
 refine rg fun K k => ?_
 refine sB h hS rfl (v_eq rfl rfl) fun z25 e25 hS a h => ?_
 refine cps 1 h rfl fun a h => ?_
 refine cN k h [1, 49] [_, _] fun h => ?_
 refine cI h hS rfl (fun ec26 hS => ?_) fun ec26 hS => ?_
 refine rg fun K k => ?_
 refine s1 h rfl (v_fieldAddr rfl underlying26 rfl sizeOf2 rfl rfl) fun a h => ?_
 refine s1 h rfl (l1 H 0 isAgg2) fun a h => ?_
 refine sB h hS rfl (v_ge rfl rfl) fun z27 e27 hS a h => ?_
 refine cps 1 h rfl fun a h => ?_
 refine st_g h rfl rfl (gT rfl) rfl rfl (fun e0 => v_fieldAddr rfl underlying26 rfl sizeOf2 rfl rfl) fun a h => ?_
 refine st_g h rfl rfl (gT rfl) rfl rfl (fun e0 => v_load1 (eg e0 rfl) isAgg2 (H.hp.get 0 rfl) rfl) fun a h => ?_
 obtain ⟨z28, e28, hS⟩ := bv hS
 refine st_g h rfl rfl (gT rfl) rfl rfl (fun e0 => vB e28 (v_le (eg e0 rfl) rfl)) fun a h => ?_
 refine sB h hS rfl (v_and rfl rfl) fun z29 e29 hS a h => ?_
 refine cps 1 h rfl fun a h => ?_
 refine st_g h rfl rfl (gT rfl) rfl rfl (fun e0 => v_fieldAddr rfl underlying26 rfl sizeOf9 rfl rfl) fun a h => ?_
 refine st_g h rfl rfl (gT rfl) rfl rfl (fun e0 => v_load1 (eg e0 rfl) isAgg9 (H.hp.get 0 rfl) rfl) fun a h => ?_
 obtain ⟨z30, e30, hS⟩ := bv hS
 refine st_g h rfl rfl (gT rfl) rfl rfl (fun e0 => vB e30 (v_seq (eg e0 rfl) rfl)) fun a h => ?_
 refine sB h hS rfl (v_and rfl rfl) fun z31 e31 hS a h => ?_
 refine cps 1 h rfl fun a h => ?_
 refine cN k h [2] [_] fun h => ?_
 cases hS
 refine r1 hr h rfl rfl ⟨rfl, H.out⟩
 refine c_skip ?_
 refine rg fun K k => ?_
 refine cps 1 h rfl fun a h => ?_
 refine cz k ?_
 cases hS
 refine r1 hr h rfl rfl ⟨rfl, H.out⟩
theorem num_fits_ok {x0 : Int} {res : Bool} {w0 : World} (hS : num_fits x0 = some res) : Calls Tryz.prog 84 [.int .i64 x0].toArray w0 (Ret fun v w => v = .bool res ∧ Ext w0 w) := by
 refine en func84 [0] [_] fun Q a Zi Z hzs H h hr => ?_
 clear hzs
 unfold num_fits at hS
 refine rg fun K k => ?_
 refine cps 1 h rfl fun a h => ?_
 refine cz k ?_
 refine rg fun K k => ?_
 refine cps 1 h rfl fun a h => ?_
 refine sB h hS rfl (v_ge rfl rfl) fun z1 e1 hS a h => ?_
 refine cps 1 h rfl fun a h => ?_
 refine cz k ?_
 cases hS
 refine r1 hr h rfl rfl ⟨rfl, H.out⟩
theorem num_Add_ok {x0 : Int} {x1 : Int} {res : Int × Bool} {w0 : World} (hS : num_Add x0 x1 = some res) : Calls Tryz.prog 57 [.int .i64 x0, .int .i64 x1].toArray w0 (Ret fun v w => v = .tuple #[.int .i64 res.1, .bool res.2] ∧ Ext w0 w) := by
 refine en func57 [0, 1] [_, _] fun Q a Zi Z hzs H h hr => ?_
 clear hzs
 unfold num_Add at hS
 refine rg fun K k => ?_
 refine cps 2 h rfl fun a h => ?_
 refine cz k ?_
 refine rg fun K k => ?_
 refine cps 2 h rfl fun a h => ?_
 refine sI h hS rfl (v_addw rfl rfl) fun z1 e1 hS a h => ?_
 refine cps 1 h rfl fun a h => ?_
 refine cN k h [0, 1, 6] [_, _, _] fun h => ?_
 refine rg fun K k => ?_
 refine cps 2 h rfl fun a h => ?_
 refine sC h H hS rfl (fun y2 f2 => dC call84 (num_fits_ok f2 :)) fun y2 hS w X H a h => ?_
 refine cps 1 h rfl fun a h => ?_
 refine st_g h rfl rfl (gT rfl) rfl rfl (fun e0 => v_move rfl) fun a h => ?_
 refine st_g h rfl rfl (gT rfl) rfl rfl (fun e0 => v_move rfl) fun a h => ?_
 obtain ⟨z3, e3, hS⟩ := bv hS
 refine st_g h rfl rfl (gT rfl) rfl rfl (fun e0 => vB e3 (v_gt (eg e0 rfl) (eg e0 rfl))) fun a h => ?_
 refine st_g h rfl rfl (gT rfl) rfl rfl (fun e0 => v_move rfl) fun a h => ?_
 obtain ⟨z4, e4, hS⟩ := bv hS
 refine st_g h rfl rfl (gT rfl) rfl rfl (fun e0 => vB e4 (v_gt (eg e0 rfl) rfl)) fun a h => ?_
 obtain ⟨z5, e5, hS⟩ := bv hS
 refine st_g h rfl rfl (gT rfl) rfl rfl (fun e0 => vB e5 (v_beq underlying4 (eg e0 rfl) (eg e0 rfl))) fun a h => ?_
 refine sB h hS rfl (v_and rfl rfl) fun z6 e6 hS a h => ?_
 refine cps 2 h rfl fun a h => ?_
 refine cN k h [4, 5] [_, _] fun h => ?_
 cases hS
 refine r2 hr h rfl rfl rfl ⟨rfl, H.out⟩
theorem num_abs_ok {x0 : Int} {res : Int} {w0 : World} (hS : num_abs x0 = some res) : Calls Tryz.prog 82 [.int .i64 x0].toArray w0 (Ret fun v w => v = .int .u64 res ∧ Ext w0 w) := by
 refine en func82 [0] [_] fun Q a Zi Z hzs H h hr => ?_
 clear hzs
 unfold num_abs at hS
 refine rg fun K k => ?_
 refine cps 1 h rfl fun a h => ?_
 refine cz k ?_
 refine sq ?_
 refine rg fun K k => ?_
 refine cps 1 h rfl fun a h => ?_
 refine sB h hS rfl (v_lt rfl rfl) fun z2 e2 hS a h => ?_
 refine cz k ?_
 refine cI h hS rfl (fun ec3 hS => ?_) fun ec3 hS => ?_
 refine rg fun K k => ?_
 refine cps 1 h rfl fun a h => ?_
 refine sI h hS rfl (v_convInt (by rw [underlying2]; rfl) underlying140 rfl rfl) fun z4 e4 hS a h => ?_
 refine sI h hS rfl (v_negw rfl) fun z5 e5 hS a h => ?_
 refine cps 1 h rfl fun a h => ?_
 refine cN k h [2] [_] fun h => ?_
 cases hS
 refine r1 hr h rfl rfl ⟨rfl, H.out⟩
 refine c_skip ?_
 refine rg fun K k => ?_
 refine cps 1 h rfl fun a h => ?_
 refine sI h hS rfl (v_convInt (by rw [underlying2]; rfl) underlying140 rfl rfl) fun z6 e6 hS a h => ?_
 refine cps 1 h rfl fun a h => ?_
 refine cN k h [2] [_] fun h => ?_
 cases hS
 refine r1 hr h rfl rfl ⟨rfl, H.out⟩
theorem num_signed_ok {x0 : Int} {x1 : Bool} {res : Int × Bool} {w0 : World} (hS : num_signed x0 x1 = some res) : Calls Tryz.prog 83 [.int .u64 x0, .bool x1].toArray w0 (Ret fun v w => v = .tuple #[.int .i64 res.1, .bool res.2] ∧ Ext w0 w) := by
 refine en func83 [0, 1] [_, _] fun Q a Zi Z hzs H h hr => ?_
 clear hzs
 unfold num_signed at hS
 refine rg fun K k => ?_
 refine cps 2 h rfl fun a h => ?_
 refine cz k ?_
 refine sq ?_
 refine rg fun K k => ?_
 refine cps 1 h rfl fun a h => ?_
 refine sB h hS rfl (v_gt rfl rfl) fun z2 e2 hS a h => ?_
 refine cz k ?_
 refine cI h hS rfl (fun ec3 hS => ?_) fun ec3 hS => ?_
 refine rg fun K k => ?_
 refine cps 2 h rfl fun a h => ?_
 refine cN k h [4, 5] [_, _] fun h => ?_
 cases hS
 refine r2 hr h rfl rfl rfl ⟨rfl, H.out⟩
 refine c_skip ?_
 refine cO h [0, 1] [_, _] fun h => ?_
 refine sq ?_
 refine rg fun K k => ?_
 refine cps 1 h rfl fun a h => ?_
 refine cz k ?_
 refine cI h hS rfl (fun ec5 hS => ?_) fun ec5 hS => ?_
 refine rg fun K k => ?_
 refine cps 1 h rfl fun a h => ?_
 refine sI h hS rfl (v_convInt (by rw [underlying140]; rfl) underlying2 rfl rfl) fun z6 e6 hS a h => ?_
 refine sI h hS rfl (v_negw rfl) fun z7 e7 hS a h => ?_
 refine cps 2 h rfl fun a h => ?_
 refine cN k h [4, 5] [_, _] fun h => ?_
 cases hS
 refine r2 hr h rfl rfl rfl ⟨rfl, H.out⟩
 refine c_skip ?_
 refine rg fun K k => ?_
 refine cps 1 h rfl fun a h => ?_
 refine sI h hS rfl (v_convInt (by rw [underlying140]; rfl) underlying2 rfl rfl) fun z8 e8 hS a h => ?_
 refine cps 2 h rfl fun a h => ?_
 refine cN k h [4, 5] [_, _] fun h => ?_
 cases hS
 refine r2 hr h rfl rfl rfl ⟨rfl, H.out⟩
theorem num_Of_ok {x0 : Int} {res : Int × Bool} {w0 : World} (hS : num_Of x0 = some res) : Calls Tryz.prog 55 [.int .i64 x0].toArray w0 (Ret fun v w => v = .tuple #[.int .i64 res.1, .bool res.2] ∧ Ext w0 w) := by
 refine en func55 [0] [_] fun Q a Zi Z hzs H h hr => ?_
 clear hzs
 unfold num_Of at hS
 refine rg fun K k => ?_
 refine cps 2 h rfl fun a h => ?_
 refine cz k ?_
 refine sq ?_
 refine rg fun K k => ?_
 refine cps 1 h rfl fun a h => ?_
 refine sB h hS rfl (v_gt rfl rfl) fun z2 e2 hS a h => ?_
 refine cps 1 h rfl fun a h => ?_
 refine st_g h rfl rfl (gF rfl) rfl rfl (fun e0 => v_move rfl) fun a h => ?_
 obtain ⟨z3, e3, hS⟩ := bv hS
 refine st_g h rfl rfl (gF rfl) rfl rfl (fun e0 => vB e3 (v_lt (eg e0 rfl) rfl)) fun a h => ?_
 refine sB h hS rfl (v_or rfl rfl) fun z4 e4 hS a h => ?_
 refine cN k h [0, 9] [_, _] fun h => ?_
 refine cI h hS rfl (fun ec5 hS => ?_) fun ec5 hS => ?_
 refine rg fun K k => ?_
 refine cps 2 h rfl fun a h => ?_
 refine cz k ?_
 cases hS
 refine r2 hr h rfl rfl rfl ⟨rfl, H.out⟩
 refine c_skip ?_
 refine rg fun K k => ?_
 refine cps 1 h rfl fun a h => ?_
 refine sI h hS rfl (v_mulw rfl rfl) fun z6 e6 hS a h => ?_
 refine cps 2 h rfl fun a h => ?_
 refine cN k h [2, 3] [_, _] fun h => ?_
 cases hS
 refine r2 hr h rfl rfl rfl ⟨rfl, H.out⟩
theorem num_Whole_ok {x0 : Int} {res : Int × Bool} {w0 : World} (hS : num_Whole x0 = some res) : Calls Tryz.prog 50 [.int .i64 x0].toArray w0 (Ret fun v w => v = .tuple #[.int .i64 res.1, .bool res.2] ∧ Ext w0 w) := by
 refine en func50 [0] [_] fun Q a Zi Z hzs H h hr => ?_
 clear hzs
 unfold num_Whole at hS
 refine rg fun K k => ?_
 refine cps 2 h rfl fun a h => ?_
 refine cz k ?_
 refine rg fun K k => ?_
 refine cps 1 h rfl fun a h => ?_
 refine sI h hS rfl (v_quow rfl rfl (by decide)) fun z1 e1 hS a h => ?_
 refine cps 1 h rfl fun a h => ?_
 refine sI h hS rfl (v_rem rfl rfl (by decide)) fun z2 e2 hS a h => ?_
 refine sB h hS rfl (v_eq rfl rfl) fun z3 e3 hS a h => ?_
 refine cps 2 h rfl fun a h => ?_
 refine cN k h [2, 3] [_, _] fun h => ?_
 cases hS
 refine r2 hr h rfl rfl rfl ⟨rfl, H.out⟩
theorem addr_Less_ok {x0 : C} {x1 : C} {res : Bool} {w0 : World} (hS : addr_Less x0 x1 = some res) : Calls Tryz.prog 61 [.agg #[.int .i64 x0.s, .int .i64 x0.c, .int .i64 x0.r], .agg #[.int .i64 x1.s, .int .i64 x1.c, .int .i64 x1.r]].toArray w0 (Ret fun v w => v = .bool res ∧ Ext w0 w) := by
 refine en func61 [0, 1] [_, _] fun Q a Zi Z hzs H h hr => ?_
 clear hzs
 unfold addr_Less at hS
 refine rg fun K k => ?_
 refine z_box h H rfl [_, _, _] rfl rfl fun a p1 w X H h => ?_
 have H : HZ w0 _ _ [_] _ := H
 refine z_box h H rfl [_, _, _] rfl rfl fun a p2 w X H h => ?_
 have H : HZ w0 _ _ [_, _] _ := H
 refine cps 1 h rfl fun a h => ?_
 refine cz k ?_
 refine sq ?_
 refine rg fun K k => ?_
 refine s1 h rfl (v_fieldAddr rfl underlying28 rfl sizeOf3 rfl rfl) fun a h => ?_
 refine s1 h rfl (l1 H 0 isAgg3) fun a h => ?_
 refine s1 h rfl (v_fieldAddr rfl underlying28 rfl sizeOf3 rfl rfl) fun a h => ?_
 refine s1 h rfl (l1 H 1 isAgg3) fun a h => ?_
 refine sB h hS rfl (v_ne rfl rfl) fun z4 e4 hS a h => ?_
 refine cN k h [2, 3, 9] [_, _, _] fun h => ?_
 refine cI h hS rfl (fun ec5 hS => ?_) fun ec5 hS => ?_
 refine rg fun K k => ?_
 refine s1 h rfl (v_fieldAddr rfl underlying28 rfl sizeOf3 rfl rfl) fun a h => ?_
 refine s1 h rfl (l1 H 0 isAgg3) fun a h => ?_
 refine s1 h rfl (v_fieldAddr rfl underlying28 rfl sizeOf3 rfl rfl) fun a h => ?_
 refine s1 h rfl (l1 H 1 isAgg3) fun a h => ?_
 refine sB h hS rfl (v_lt rfl rfl) fun z6 e6 hS a h => ?_
 refine cps 1 h rfl fun a h => ?_
 refine cN k h [4] [_] fun h => ?_
 cases hS
 refine r1 hr h rfl rfl ⟨rfl, H.out⟩
 refine c_skip ?_
 refine sq ?_
 refine rg fun K k => ?_
 refine s1 h rfl (v_fieldAddr rfl underlying28 rfl sizeOf3 rfl rfl) fun a h => ?_
 refine s1 h rfl (l1 H 0 isAgg3) fun a h => ?_
 refine s1 h rfl (v_fieldAddr rfl underlying28 rfl sizeOf3 rfl rfl) fun a h => ?_
 refine s1 h rfl (l1 H 1 isAgg3) fun a h => ?_
 refine sB h hS rfl (v_ne rfl rfl) fun z8 e8 hS a h => ?_
 refine cN k h [2, 3, 19] [_, _, _] fun h => ?_
 refine cI h hS rfl (fun ec9 hS => ?_) fun ec9 hS => ?_
 refine rg fun K k => ?_
 refine s1 h rfl (v_fieldAddr rfl underlying28 rfl sizeOf3 rfl rfl) fun a h => ?_
 refine s1 h rfl (l1 H 0 isAgg3) fun a h => ?_
 refine s1 h rfl (v_fieldAddr rfl underlying28 rfl sizeOf3 rfl rfl) fun a h => ?_
 refine s1 h rfl (l1 H 1 isAgg3) fun a h => ?_
 refine sB h hS rfl (v_lt rfl rfl) fun z10 e10 hS a h => ?_
 refine cps 1 h rfl fun a h => ?_
 refine cN k h [4] [_] fun h => ?_
 cases hS
 refine r1 hr h rfl rfl ⟨rfl, H.out⟩
 refine c_skip ?_
 refine rg fun K k => ?_
 refine s1 h rfl (v_fieldAddr rfl underlying28 rfl sizeOf3 rfl rfl) fun a h => ?_
 refine s1 h rfl (l1 H 0 isAgg3) fun a h => ?_
 refine s1 h rfl (v_fieldAddr rfl underlying28 rfl sizeOf3 rfl rfl) fun a h => ?_
 refine s1 h rfl (l1 H 1 isAgg3) fun a h => ?_
 refine sB h hS rfl (v_lt rfl rfl) fun z11 e11 hS a h => ?_
 refine cps 1 h rfl fun a h => ?_
 refine cN k h [4] [_] fun h => ?_
 cases hS
 refine r1 hr h rfl rfl ⟨rfl, H.out⟩
theorem addr_Right_ok {x0 : C} {res : Bool} {w0 : World} (hS : addr_Right x0 = some res) : Calls Tryz.prog 134 [.agg #[.int .i64 x0.s, .int .i64 x0.c, .int .i64 x0.r]].toArray w0 (Ret fun v w => v = .bool res ∧ Ext w0 w) := by
 refine en func134 [0] [_] fun Q a Zi Z hzs H h hr => ?_
 clear hzs
 unfold addr_Right at hS
 refine rg fun K k => ?_
 refine z_box h H rfl [_, _, _] rfl rfl fun a p1 w X H h => ?_
 have H : HZ w0 _ _ [_] _ := H
 refine cps 1 h rfl fun a h => ?_
 refine cz k ?_
 refine rg fun K k => ?_
 refine s1 h rfl (v_fieldAddr rfl underlying28 rfl sizeOf3 rfl rfl) fun a h => ?_
 refine s1 h rfl (l1 H 0 isAgg3) fun a h => ?_
 refine sB h hS rfl (v_ge rfl rfl) fun z2 e2 hS a h => ?_
 refine cps 1 h rfl fun a h => ?_
 refine st_g h rfl rfl (gT rfl) rfl rfl (fun e0 => v_fieldAddr rfl underlying28 rfl sizeOf3 rfl rfl) fun a h => ?_
 refine st_g h rfl rfl (gT rfl) rfl rfl (fun e0 => v_load1 (eg e0 rfl) isAgg3 (H.hp.get 0 rfl) rfl) fun a h => ?_
 obtain ⟨z3, e3, hS⟩ := bv hS
 refine st_g h rfl rfl (gT rfl) rfl rfl (fun e0 => vB e3 (v_lt (eg e0 rfl) rfl)) fun a h => ?_
 refine sB h hS rfl (v_and rfl rfl) fun z4 e4 hS a h => ?_
 refine cps 1 h rfl fun a h => ?_
 refine st_g h rfl rfl (gT rfl) rfl rfl (fun e0 => v_fieldAddr rfl underlying28 rfl sizeOf3 rfl rfl) fun a h => ?_
 refine st_g h rfl rfl (gT rfl) rfl rfl (fun e0 => v_load1 (eg e0 rfl) isAgg3 (H.hp.get 0 rfl) rfl) fun a h => ?_
 obtain ⟨z5, e5, hS⟩ := bv hS
 refine st_g h rfl rfl (gT rfl) rfl rfl (fun e0 => vB e5 (v_ge (eg e0 rfl) rfl)) fun a h => ?_
 refine sB h hS rfl (v_and rfl rfl) fun z6 e6 hS a h => ?_
 refine cps 1 h rfl fun a h => ?_
 refine st_g h rfl rfl (gT rfl) rfl rfl (fun e0 => v_fieldAddr rfl underlying28 rfl sizeOf3 rfl rfl) fun a h => ?_
 refine st_g h rfl rfl (gT rfl) rfl rfl (fun e0 => v_load1 (eg e0 rfl) isAgg3 (H.hp.get 0 rfl) rfl) fun a h => ?_
 obtain ⟨z7, e7, hS⟩ := bv hS
 refine st_g h rfl rfl (gT rfl) rfl rfl (fun e0 => vB e7 (v_lt (eg e0 rfl) rfl)) fun a h => ?_
 refine sB h hS rfl (v_and rfl rfl) fun z8 e8 hS a h => ?_
 refine cps 1 h rfl fun a h => ?_
 refine st_g h rfl rfl (gT rfl) rfl rfl (fun e0 => v_fieldAddr rfl underlying28 rfl sizeOf3 rfl rfl) fun a h => ?_
 refine st_g h rfl rfl (gT rfl) rfl rfl (fun e0 => v_load1 (eg e0 rfl) isAgg3 (H.hp.get 0 rfl) rfl) fun a h => ?_
 obtain ⟨z9, e9, hS⟩ := bv hS
 refine st_g h rfl rfl (gT rfl) rfl rfl (fun e0 => vB e9 (v_ge (eg e0 rfl) rfl)) fun a h => ?_
 refine sB h hS rfl (v_and rfl rfl) fun z10 e10 hS a h => ?_
 refine cps 1 h rfl fun a h => ?_
 refine st_g h rfl rfl (gT rfl) rfl rfl (fun e0 => v_fieldAddr rfl underlying28 rfl sizeOf3 rfl rfl) fun a h => ?_
 refine st_g h rfl rfl (gT rfl) rfl rfl (fun e0 => v_load1 (eg e0 rfl) isAgg3 (H.hp.get 0 rfl) rfl) fun a h => ?_
 obtain ⟨z11, e11, hS⟩ := bv hS
 refine st_g h rfl rfl (gT rfl) rfl rfl (fun e0 => vB e11 (v_lt (eg e0 rfl) rfl)) fun a h => ?_
 refine sB h hS rfl (v_and rfl rfl) fun z12 e12 hS a h => ?_
 refine cps 1 h rfl fun a h => ?_
 refine cN k h [2] [_] fun h => ?_
 cases hS
 refine r1 hr h rfl rfl ⟨rfl, H.out⟩
theorem poly_less_ok {x0 : List (C)} {x1 : List (C)} {res : Int} {w0 : World} (hS : poly_less x0 x1 = some res) {xv0 : Value} (rp0 : RdZ (hz w0) xv0 3 cL x0) {xv1 : Value} (rp1 : RdZ (hz w0) xv1 3 cL x1) : Calls Tryz.prog 109 [xv0, xv1].toArray w0 (Ret fun v w => v = .int .i64 res ∧ Ext w0 w) := by
 refine en func109 [0, 1] [_, _] fun Q a Zi Z hzs H h hr => ?_
 have rp0 := rp0.sub hzs
 have rp1 := rp1.sub hzs
 clear hzs
 unfold poly_less at hS
 refine rg fun K k => ?_
 refine cps 1 h rfl fun a h => ?_
 refine cz k ?_
 refine sq ?_
 refine rg fun K k => ?_
 refine cps 1 h rfl fun a h => ?_
 refine s1 h rfl (v_len underlying49 rfl (rp0.at H.zin)) fun a h => ?_
 refine cps 1 h rfl fun a h => ?_
 refine s1 h rfl (v_len underlying49 rfl (rp1.at H.zin)) fun a h => ?_
 refine sB h hS rfl (v_ne rfl rfl) fun z2 e2 hS a h => ?_
 refine cN k h [0, 1, 10] [_, _, _] fun h => ?_
 refine cI h hS rfl (fun ec3 hS => ?_) fun ec3 hS => ?_
 refine rg fun K k => ?_
 refine cps 1 h rfl fun a h => ?_
 refine s1 h rfl (v_len underlying49 rfl (rp0.at H.zin)) fun a h => ?_
 refine cps 1 h rfl fun a h => ?_
 refine s1 h rfl (v_len underlying49 rfl (rp1.at H.zin)) fun a h => ?_
 refine sI h hS rfl (v_subw rfl rfl) fun z4 e4 hS a h => ?_
 refine cps 1 h rfl fun a h => ?_
 refine cN k h [4] [_] fun h => ?_
 cases hS
 refine r1 hr h rfl rfl ⟨rfl, H.out⟩
 refine c_skip ?_
 obtain ⟨J6, eJ6, hS⟩ := bv hS
 refine sqJ (fun a w => ∃ (Z : FZ) (s6 : Unit), J6 s6 = some res ∧ Fr 40 [] a ∧ HZ w0 Zi Z [] w) ?_ ?_
 rintro a w ⟨Z, s6, hS, h, H⟩
 subst eJ6
 refine rg fun K k => ?_
 refine cps 1 h rfl fun a h => ?_
 refine cz k ?_
 cases hS
 refine r1 hr h rfl rfl ⟨rfl, H.out⟩
 refine rg fun K k => ?_
 refine cps 1 h rfl fun a h => ?_
 refine s1 h rfl (v_len underlying49 rfl (rp0.at H.zin)) fun a h => ?_
 refine cps 1 h rfl fun a h => ?_
 refine cz k ?_
 refine lb ?_
 obtain ⟨B8, eB8, hS⟩ := bv hS
 refine lpJ (fun mu_ a w => ∃ (Z : FZ) (s8 : Int), loopF B8 mu_ s8 = some res ∧ Fr 40 [(0, xv0), (1, xv1), (17, .int .i64 (x0.length : Int)), (18, .int .i64 s8)] a ∧ HZ w0 Zi Z [] w ∧ RdZ Z xv0 3 cL x0 ∧ RdZ Z xv1 3 cL x1) KK ⟨_, _, hS, h.to, H, rp0, rp1⟩ ?_
 rintro mu_ a w ⟨Z, s8, hS, h, H, rp0, rp1⟩
 obtain ⟨mu_, rfl, n8, en8, hS⟩ := lpX eB8 hS
 refine rg fun K k => ?_
 refine sB h hS rfl (v_lt rfl rfl) fun z10 e10 hS a h => ?_
 refine cz k ?_
 refine sq ?_
 refine cI h hS rfl (fun ec12 hS => ?_) fun ec12 hS => ?_
 refine c_skip ?_
 refine sb ?_
 refine rg fun K k => ?_
 refine cps 2 h rfl fun a h => ?_
 refine cz k ?_
 refine sq ?_
 refine fl h ?_
 refine fcps 2 rfl ?_
 obtain ⟨c15, hS⟩ := ck hS
 obtain ⟨z16, e16, hS⟩ := bv hS
 refine f_op [21, 22] rfl rfl rfl rfl false (.rel (fun w' v' => At w' v' cL z16 0)) at_stab (fun w X => ?_) ?_
 skip
 exact have H := H.ext X; d_idx underlying49 sizeOf28 rfl rfl (rp0.at H.zin) (fun _ => rfl) z16 c15.1 (by rw [e16]; exact gel_some c15)
 refine f_op [23] rfl rfl rfl rfl false (.eq (.agg #[.int .i64 z16.s, .int .i64 z16.c, .int .i64 z16.r])) trivial (fun w X => ?_) ?_
 intro v23 h23
 exact (v_loadAtA [_, _, _] rfl h23 isAgg28 sizeOf28 rfl rfl).doesF
 refine fcps 2 rfl ?_
 obtain ⟨c17, hS⟩ := ck hS
 obtain ⟨z18, e18, hS⟩ := bv hS
 refine f_op [25, 26] rfl rfl rfl rfl false (.rel (fun w' v' => At w' v' cL z18 0)) at_stab (fun w X => ?_) ?_
 skip
 exact have H := H.ext X; d_idx underlying49 sizeOf28 rfl rfl (rp1.at H.zin) (fun _ => rfl) z18 c17.1 (by rw [e18]; exact gel_some c17)
 refine f_op [27] rfl rfl rfl rfl false (.eq (.agg #[.int .i64 z18.s, .int .i64 z18.c, .int .i64 z18.r])) trivial (fun w X => ?_) ?_
 intro v27 h27
 exact (v_loadAtA [_, _, _] rfl h27 isAgg28 sizeOf28 rfl rfl).doesF
 refine fC hS rfl (fun y19 f19 w X => dC call61 (addr_Less_ok f19 :)) fun y19 hS => ?_
 refine fE [0, 1, 5, 17, 18, 29] [_, _, _, _, _, _] H fun a w X H h => ?_
 refine cI h hS rfl (fun ec20 hS => ?_) fun ec20 hS => ?_
 refine rg fun K k => ?_
 refine cps 1 h rfl fun a h => ?_
 refine cN k h [4] [_] fun h => ?_
 cases hS
 refine r1 hr h rfl rfl ⟨rfl, H.out⟩
 refine c_skip ?_
 refine fl h ?_
 refine fcps 2 rfl ?_
 obtain ⟨c21, hS⟩ := ck hS
 obtain ⟨z22, e22, hS⟩ := bv hS
 refine f_op [30, 31] rfl rfl rfl rfl false (.rel (fun w' v' => At w' v' cL z22 0)) at_stab (fun w X => ?_) ?_
 skip
 exact have H := H.ext X; d_idx underlying49 sizeOf28 rfl rfl (rp1.at H.zin) (fun _ => rfl) z22 c21.1 (by rw [e22]; exact gel_some c21)
 refine f_op [32] rfl rfl rfl rfl false (.eq (.agg #[.int .i64 z22.s, .int .i64 z22.c, .int .i64 z22.r])) trivial (fun w X => ?_) ?_
 intro v32 h32
 exact (v_loadAtA [_, _, _] rfl h32 isAgg28 sizeOf28 rfl rfl).doesF
 refine fcps 2 rfl ?_
 obtain ⟨c23, hS⟩ := ck hS
 obtain ⟨z24, e24, hS⟩ := bv hS
 refine f_op [34, 35] rfl rfl rfl rfl false (.rel (fun w' v' => At w' v' cL z24 0)) at_stab (fun w X => ?_) ?_
 skip
 exact have H := H.ext X; d_idx underlying49 sizeOf28 rfl rfl (rp0.at H.zin) (fun _ => rfl) z24 c23.1 (by rw [e24]; exact gel_some c23)
 refine f_op [36] rfl rfl rfl rfl false (.eq (.agg #[.int .i64 z24.s, .int .i64 z24.c, .int .i64 z24.r])) trivial (fun w X => ?_) ?_
 intro v36 h36
 exact (v_loadAtA [_, _, _] rfl h36 isAgg28 sizeOf28 rfl rfl).doesF
 refine fC hS rfl (fun y25 f25 w X => dC call61 (addr_Less_ok f25 :)) fun y25 hS => ?_
 refine fE [0, 1, 17, 18, 38] [_, _, _, _, _] H fun a w X H h => ?_
 refine cI h hS rfl (fun ec26 hS => ?_) fun ec26 hS => ?_
 refine rg fun K k => ?_
 refine cps 1 h rfl fun a h => ?_
 refine cN k h [4] [_] fun h => ?_
 cases hS
 refine r1 hr h rfl rfl ⟨rfl, H.out⟩
 refine c_skip ?_
 refine c_lregion ?_
 refine sI h hS rfl (v_addw rfl rfl) fun z27 e27 hS a h => ?_
 refine cps 1 h rfl fun a h => ?_
 refine c_lnil ?_
 exact exL (ex2 ⟨lpN en8 hS, h.to, H, rp0, rp1⟩)
 exact c_exit (exU1 ⟨hS, h.to, H⟩)
theorem poly_norm_1_ok {x0 : T} {x1 : T} {res : Int} {w0 : World} (hS : poly_norm_1 x0 x1 = some res) {xv0 : Value} (rp0 : RdZ (hz w0) xv0 3 cL x0.v) {xv1 : Value} (rp1 : RdZ (hz w0) xv1 3 cL x1.v) : Calls Tryz.prog 108 [.agg #[.int .i64 x0.n, xv0], .agg #[.int .i64 x1.n, xv1]].toArray w0 (Ret fun v w => v = .int .i64 res ∧ Ext w0 w) := by
 refine en func108 [0, 1] [_, _] fun Q a Zi Z hzs H h hr => ?_
 have rp0 := rp0.sub hzs
 have rp1 := rp1.sub hzs
 clear hzs
 unfold poly_norm_1 at hS
 refine rg fun K k => ?_
 refine z_box h H rfl [_, _] rfl rfl fun a p1 w X H h => ?_
 have H : HZ w0 _ _ [_] _ := H
 refine z_box h H rfl [_, _] rfl rfl fun a p2 w X H h => ?_
 have H : HZ w0 _ _ [_, _] _ := H
 refine cps 1 h rfl fun a h => ?_
 refine cz k ?_
 refine rg fun K k => ?_
 refine s1 h rfl (v_fieldAddr rfl underlying102 rfl sizeOf49 rfl rfl) fun a h => ?_
 refine s1 h rfl (l1 H 0 isAgg49) fun a h => ?_
 refine s1 h rfl (v_fieldAddr rfl underlying102 rfl sizeOf49 rfl rfl) fun a h => ?_
 refine s1 h rfl (l1 H 1 isAgg49) fun a h => ?_
 refine sC h H hS rfl (fun y3 f3 => dC call109 (poly_less_ok f3 (rp0.hz H.zin) (rp1.hz H.zin) :)) fun y3 hS w X H a h => ?_
 refine cps 1 h rfl fun a h => ?_
 refine cN k h [4] [_] fun h => ?_
 cases hS
 refine r1 hr h rfl rfl ⟨rfl, H.out⟩
theorem poly_norm_1_okE {x y : T} {cx cy : List Value} {r : Int} {w : World} (hg : poly_norm_1 x y = some r) {Z : FZ} (hi : Z.inn w) (ha : termEnc.rel Z x cx) (hb : termEnc.rel Z y cy) : Calls Tryz.prog 108 ([Value.agg cx.toArray, Value.agg cy.toArray] ++ (#[] : Array Value).toList).toArray w (Ret fun v w' => v = .int .i64 r ∧ Ext w w') := by
 obtain ⟨va, rfl, h1⟩ := ha
 obtain ⟨vb, rfl, h2⟩ := hb
 exact poly_norm_1_ok hg (h1.hz hi) (h2.hz hi)
theorem poly_Mul_1_ok {x0 : C} {x1 : C} {res : Int} {w0 : World} (hS : poly_Mul_1 x0 x1 = some res) : Calls Tryz.prog 111 [.agg #[.int .i64 x0.s, .int .i64 x0.c, .int .i64 x0.r], .agg #[.int .i64 x1.s, .int .i64 x1.c, .int .i64 x1.r]].toArray w0 (Ret fun v w => v = .int .i64 res ∧ Ext w0 w) := by
 refine en func111 [0, 1] [_, _] fun Q a Zi Z hzs H h hr => ?_
 clear hzs
 unfold poly_Mul_1 at hS
 refine rg fun K k => ?_
 refine z_box h H rfl [_, _, _] rfl rfl fun a p1 w X H h => ?_
 have H : HZ w0 _ _ [_] _ := H
 refine z_box h H rfl [_, _, _] rfl rfl fun a p2 w X H h => ?_
 have H : HZ w0 _ _ [_, _] _ := H
 refine cps 1 h rfl fun a h => ?_
 refine cz k ?_
 refine sb ?_
 refine rg fun K k => ?_
 refine s1 h rfl (lA H 0 isAgg28 sizeOf28 [_, _, _]) fun a h => ?_
 refine s1 h rfl (lA H 1 isAgg28 sizeOf28 [_, _, _]) fun a h => ?_
 refine sC h H hS rfl (fun y4 f4 => dC call61 (addr_Less_ok f4 :)) fun y4 hS w X H a h => ?_
 refine cps 1 h rfl fun a h => ?_
 refine cN k h [2, 3, 5] [_, _, _] fun h => ?_
 refine cI h hS rfl (fun ec5 hS => ?_) fun ec5 hS => ?_
 refine rg fun K k => ?_
 refine cps 1 h rfl fun a h => ?_
 refine cz k ?_
 cases hS
 refine r1 hr h rfl rfl ⟨rfl, H.out⟩
 refine rg fun K k => ?_
 refine s1 h rfl (lA H 1 isAgg28 sizeOf28 [_, _, _]) fun a h => ?_
 refine s1 h rfl (lA H 0 isAgg28 sizeOf28 [_, _, _]) fun a h => ?_
 refine sC h H hS rfl (fun y6 f6 => dC call61 (addr_Less_ok f6 :)) fun y6 hS w X H a h => ?_
 refine cps 1 h rfl fun a h => ?_
 refine cN k h [9] [_] fun h => ?_
 refine cI h hS rfl (fun ec7 hS => ?_) fun ec7 hS => ?_
 refine rg fun K k => ?_
 refine cps 1 h rfl fun a h => ?_
 refine cz k ?_
 cases hS
 refine r1 hr h rfl rfl ⟨rfl, H.out⟩
 refine c_skip ?_
 refine rg fun K k => ?_
 refine cps 1 h rfl fun a h => ?_
 refine cz k ?_
 cases hS
 refine r1 hr h rfl rfl ⟨rfl, H.out⟩
theorem poly_Mul_1_okE {x y : C} {cx cy : List Value} {r : Int} {w : World} (hg : poly_Mul_1 x y = some r) {Z : FZ} (hi : Z.inn w) (ha : cellEnc.rel Z x cx) (hb : cellEnc.rel Z y cy) : Calls Tryz.prog 111 ([Value.agg cx.toArray, Value.agg cy.toArray] ++ (#[] : Array Value).toList).toArray w (Ret fun v w' => v = .int .i64 r ∧ Ext w w') := by
 obtain rfl := ha
 obtain rfl := hb
 exact poly_Mul_1_ok hg
theorem addr_PrintRef_ok {x0 : Rf} {x1 : Int} {res : (List UInt8)} {w0 : World} (hS : addr_PrintRef x0 x1 = some res) (hG : GW w0) : Calls Tryz.prog 104 [.agg #[.int .i64 x0.c.s, .int .i64 x0.c.c, .int .i64 x0.c.r, .bool x0.ac, .bool x0.ar], .int .i64 x1].toArray w0 (Ret fun v w => v = S res ∧ Ext w0 w) := by
 refine en func104 [0, 1] [_, _] fun Q a Zi Z hzs H h hr => ?_
 clear hzs
 unfold addr_PrintRef at hS
 refine rg fun K k => ?_
 refine z_box h H rfl [_, _, _, _, _] rfl rfl fun a p1 w X H h => ?_
 have H : HZ w0 _ _ [_] _ := H
 refine cps 1 h rfl fun a h => ?_
 refine cz k ?_
 refine rg fun K k => ?_
 refine cps 1 h rfl fun a h => ?_
 refine cz k ?_
 obtain ⟨J3, eJ3, hS⟩ := bv hS
 refine sqJ (fun a w => ∃ (Z : FZ) (s3 : (List UInt8)), J3 s3 = some res ∧ Fr 41 [(2, .pointer (some ⟨p1, 0, none⟩)), (5, S s3)] a ∧ HZ w0 Zi Z [.blk p1 (Cel [.int .i64 x0.c.s, .int .i64 x0.c.c, .int .i64 x0.c.r, .bool x0.ac, .bool x0.ar] 30)] w) ?_ ?_
 rintro a w ⟨Z, s3, hS, h, H⟩
 subst eJ3
 obtain ⟨J5, eJ5, hS⟩ := bv hS
 refine sqJ (fun a w => ∃ (Z : FZ) (s5 : (List UInt8)), J5 s5 = some res ∧ Fr 41 [(2, .pointer (some ⟨p1, 0, none⟩)), (5, S s5)] a ∧ HZ w0 Zi Z [.blk p1 (Cel [.int .i64 x0.c.s, .int .i64 x0.c.c, .int .i64 x0.c.r, .bool x0.ac, .bool x0.ar] 30)] w) ?_ ?_
 rintro a w ⟨Z, s5, hS, h, H⟩
 subst eJ5
 refine rg fun K k => ?_
 refine cps 1 h rfl fun a h => ?_
 refine s1 h rfl (v_fieldAddr rfl underlying30 rfl sizeOf28 rfl rfl) fun a h => ?_
 refine s1 h rfl (v_fieldAddr rfl underlying28 rfl sizeOf3 rfl rfl) fun a h => ?_
 refine s1 h rfl (l1 H 0 isAgg3) fun a h => ?_
 refine sI h hS rfl (v_addw rfl rfl) fun z6 e6 hS a h => ?_
 refine sI h hS rfl (v_convInt (by rw [underlying3]; rfl) underlying21 rfl rfl) fun z7 e7 hS a h => ?_
 obtain ⟨c8, hS⟩ := ck hS
 refine sS h hS rfl (v_runeS underlying21 underlying9 rfl c8) fun z9 e9 hS a h => ?_
 obtain ⟨c10, hS⟩ := ck hS
 refine sS h hS rfl (v_sadd rfl rfl c10) fun z11 e11 hS a h => ?_
 refine cps 1 h rfl fun a h => ?_
 refine cN k h [2, 5] [_, _] fun h => ?_
 obtain ⟨J13, eJ13, hS⟩ := bv hS
 refine sqJ (fun a w => ∃ (Z : FZ) (s13 : (List UInt8)), J13 s13 = some res ∧ Fr 41 [(2, .pointer (some ⟨p1, 0, none⟩)), (5, S s13)] a ∧ HZ w0 Zi Z [.blk p1 (Cel [.int .i64 x0.c.s, .int .i64 x0.c.c, .int .i64 x0.c.r, .bool x0.ac, .bool x0.ar] 30)] w) ?_ ?_
 rintro a w ⟨Z, s13, hS, h, H⟩
 subst eJ13
 refine rg fun K k => ?_
 refine cps 1 h rfl fun a h => ?_
 refine s1 h rfl (v_fieldAddr rfl underlying30 rfl sizeOf28 rfl rfl) fun a h => ?_
 refine s1 h rfl (v_fieldAddr rfl underlying28 rfl sizeOf3 rfl rfl) fun a h => ?_
 refine s1 h rfl (l1 H 0 isAgg3) fun a h => ?_
 refine sI h hS rfl (v_addw rfl rfl) fun z14 e14 hS a h => ?_
 obtain ⟨c16, hS⟩ := ck hS
 obtain ⟨z17, e17, hS⟩ := bv hS
 refine st2v (T := Ext) (V := S z17) h rfl rfl rfl ((by rw [e17]; exact dC call148 (lib_itoa c16 (hG.ext H.out)))) fun w X a h => ?_
 have H := H.ext X
 obtain ⟨c18, hS⟩ := ck hS
 refine sS h hS rfl (v_sadd rfl rfl c18) fun z19 e19 hS a h => ?_
 refine cps 1 h rfl fun a h => ?_
 refine cN k h [4] [_] fun h => ?_
 cases hS
 refine r1 hr h rfl rfl ⟨rfl, H.out⟩
 refine rg fun K k => ?_
 refine s1 h rfl (v_fieldAddr rfl underlying30 rfl sizeOf4 rfl rfl) fun a h => ?_
 refine s1 h rfl (l1 H 0 isAgg4) fun a h => ?_
 refine cz k ?_
 refine cI h hS rfl (fun ec20 hS => ?_) fun ec20 hS => ?_
 refine c_lregion ?_
 refine cps 1 h rfl fun a h => ?_
 obtain ⟨c21, hS⟩ := ck hS
 refine sS h hS rfl (v_sadd rfl rfl c21) fun z22 e22 hS a h => ?_
 refine cps 1 h rfl fun a h => ?_
 refine c_lnil ?_
 exact ex2 ⟨hS, h.to, H⟩
 exact c_skip (ex2 ⟨hS, h.to, H⟩)
 refine rg fun K k => ?_
 refine s1 h rfl (v_fieldAddr rfl underlying30 rfl sizeOf4 rfl rfl) fun a h => ?_
 refine s1 h rfl (l1 H 0 isAgg4) fun a h => ?_
 refine cz k ?_
 refine cI h hS rfl (fun ec23 hS => ?_) fun ec23 hS => ?_
 refine c_lregion ?_
 refine cps 1 h rfl fun a h => ?_
 obtain ⟨c24, hS⟩ := ck hS
 refine sS h hS rfl (v_sadd rfl rfl c24) fun z25 e25 hS a h => ?_
 refine cps 1 h rfl fun a h => ?_
 refine c_lnil ?_
 exact ex2 ⟨hS, h.to, H⟩
 exact c_skip (ex2 ⟨hS, h.to, H⟩)
 refine rg fun K k => ?_
 refine s1 h rfl (v_fieldAddr rfl underlying30 rfl sizeOf28 rfl rfl) fun a h => ?_
 refine s1 h rfl (v_fieldAddr rfl underlying28 rfl sizeOf3 rfl rfl) fun a h => ?_
 refine s1 h rfl (l1 H 0 isAgg3) fun a h => ?_
 refine cps 1 h rfl fun a h => ?_
 refine sB h hS rfl (v_ne rfl rfl) fun z26 e26 hS a h => ?_
 refine cN k h [2, 5, 10] [_, _, _] fun h => ?_
 refine cI h hS rfl (fun ec27 hS => ?_) fun ec27 hS => ?_
 refine c_lregion ?_
 refine s1 h rfl (v_fieldAddr rfl underlying30 rfl sizeOf28 rfl rfl) fun a h => ?_
 refine s1 h rfl (v_fieldAddr rfl underlying28 rfl sizeOf3 rfl rfl) fun a h => ?_
 refine s1 h rfl (l1 H 0 isAgg3) fun a h => ?_
 refine sI h hS rfl (v_addw rfl rfl) fun z28 e28 hS a h => ?_
 obtain ⟨c30, hS⟩ := ck hS
 obtain ⟨z31, e31, hS⟩ := bv hS
 refine st2v (T := Ext) (V := S z31) h rfl rfl rfl ((by rw [e31]; exact dC call148 (lib_itoa c30 (hG.ext H.out)))) fun w X a h => ?_
 have H := H.ext X
 obtain ⟨c32, hS⟩ := ck hS
 refine sS h hS rfl (v_sadd rfl rfl c32) fun z33 e33 hS a h => ?_
 obtain ⟨c34, hS⟩ := ck hS
 refine sS h hS rfl (v_sadd rfl rfl c34) fun z35 e35 hS a h => ?_
 refine cps 1 h rfl fun a h => ?_
 refine c_lnil ?_
 exact ex2 ⟨hS, h.to, H⟩
 exact c_skip (ex2 ⟨hS, h.to, H⟩)
theorem addr_Print_ok {x0 : C} {res : (List UInt8)} {w0 : World} (hS : addr_Print x0 = some res) (hG : GW w0) : Calls Tryz.prog 76 [.agg #[.int .i64 x0.s, .int .i64 x0.c, .int .i64 x0.r]].toArray w0 (Ret fun v w => v = S res ∧ Ext w0 w) := by
 refine en func76 [0] [_] fun Q a Zi Z hzs H h hr => ?_
 clear hzs
 unfold addr_Print at hS
 refine rg fun K k => ?_
 refine z_box h H rfl [_, _, _] rfl rfl fun a p1 w X H h => ?_
 have H : HZ w0 _ _ [_] _ := H
 refine cps 1 h rfl fun a h => ?_
 refine cz k ?_
 refine rg fun K k => ?_
 refine s1 h rfl (lA H 0 isAgg28 sizeOf28 [_, _, _]) fun a h => ?_
 refine s1 h rfl (v_build bld30 [_] [_, _, _, _, _] rfl rfl) fun a h => ?_
 refine sC h H hS rfl (fun y2 f2 => dC call104 (addr_PrintRef_ok f2 (hG.ext H.out) :)) fun y2 hS w X H a h => ?_
 refine cps 1 h rfl fun a h => ?_
 refine cN k h [2] [_] fun h => ?_
 cases hS
 refine r1 hr h rfl rfl ⟨rfl, H.out⟩
theorem tree_Name_ok {x0 : Int} {res : (List UInt8)} {w0 : World} (hS : tree_Name x0 = some res) (hG : GW w0) : Calls Tryz.prog 79 [.int .i64 x0].toArray w0 (Ret fun v w => v = S res ∧ Ext w0 w) := by
 refine en func79 [0] [_] fun Q a Zi Z hzs H h hr => ?_
 clear hzs
 unfold tree_Name at hS
 refine rg fun K k => ?_
 refine cps 1 h rfl fun a h => ?_
 refine cz k ?_
 refine rg fun K k => ?_
 obtain ⟨c2, hS⟩ := ck hS
 obtain ⟨z3, e3, hS⟩ := bv hS
 refine z_callR (data := z3) h H rfl rfl rfl ((by rw [e3]; exact dC call64 (lib_fields c2 (hG.ext H.out)))) fun v4_4 Z w hsub X H r4_4 a h => ?_
 refine cps 1 h rfl fun a h => ?_
 refine cz k ?_
 refine sq ?_
 refine rg fun K k => ?_
 refine cps 1 h rfl fun a h => ?_
 refine sB h hS rfl (v_lt rfl rfl) fun z6 e6 hS a h => ?_
 refine cps 1 h rfl fun a h => ?_
 refine st_g h rfl rfl (gF rfl) rfl rfl (fun e0 => v_move rfl) fun a h => ?_
 refine st_g h rfl rfl (gF rfl) rfl rfl (fun e0 => v_move rfl) fun a h => ?_
 refine st_g h rfl rfl (gF rfl) rfl rfl (fun e0 => v_len underlying116 (eg e0 rfl) (r4_4.at H.zin)) fun a h => ?_
 obtain ⟨z7, e7, hS⟩ := bv hS
 refine st_g h rfl rfl (gF rfl) rfl rfl (fun e0 => vB e7 (v_gt (eg e0 rfl) (eg e0 rfl))) fun a h => ?_
 refine sB h hS rfl (v_or rfl rfl) fun z8 e8 hS a h => ?_
 refine cN k h [0, 3, 12] [_, _, _] fun h => ?_
 refine cI h hS rfl (fun ec9 hS => ?_) fun ec9 hS => ?_
 refine rg fun K k => ?_
 refine cps 1 h rfl fun a h => ?_
 refine cz k ?_
 cases hS
 refine r1 hr h rfl rfl ⟨rfl, H.out⟩
 refine c_skip ?_
 refine fl h ?_
 refine fcps 2 rfl ?_
 refine fI hS rfl (fun w X => v_subw rfl rfl) fun z10 e10 hS => ?_
 obtain ⟨c11, hS⟩ := ck hS
 obtain ⟨z12, e12, hS⟩ := bv hS
 refine f_op [13, 15] rfl rfl rfl rfl false (.rel (fun w' v' => At w' v' eS z12 0)) at_stab (fun w X => ?_) ?_
 skip
 exact have H := H.ext X; d_idx underlying116 sizeOf9 rfl rfl (r4_4.at H.zin) (fun _ => rfl) z12 c11.1 (by rw [e12]; exact gel_some c11)
 refine f_op [16] rfl rfl rfl rfl false (.eq (S z12)) trivial (fun w X => ?_) ?_
 intro v16 h16
 exact (v_loadAt1 rfl h16 isAgg9 rfl).doesF
 refine fcps 2 rfl ?_
 refine fI hS rfl (fun w X => v_subw rfl rfl) fun z13 e13 hS => ?_
 obtain ⟨c14, hS⟩ := ck hS
 obtain ⟨z15, e15, hS⟩ := bv hS
 refine f_op [18, 20] rfl rfl rfl rfl false (.rel (fun w' v' => At w' v' eS z15 0)) at_stab (fun w X => ?_) ?_
 skip
 exact have H := H.ext X; d_idx underlying116 sizeOf9 rfl rfl (r4_4.at H.zin) (fun _ => rfl) z15 c14.1 (by rw [e15]; exact gel_some c14)
 refine f_op [21] rfl rfl rfl rfl false (.eq (S z15)) trivial (fun w X => ?_) ?_
 intro v21 h21
 exact (v_loadAt1 rfl h21 isAgg9 rfl).doesF
 refine F1 rfl (fun w X => v_slen underlying9 rfl) ?_
 refine fI hS rfl (fun w X => v_subw rfl rfl) fun z16 e16 hS => ?_
 obtain ⟨c17, hS⟩ := ck hS
 refine fS hS rfl (fun w X => v_scutHi underlying9 rfl rfl c17) fun z18 e18 hS => ?_
 refine fcps 1 rfl ?_
 refine fE [2] [_] H fun a w X H h => ?_
 cases hS
 refine r1 hr h rfl rfl ⟨rfl, H.out⟩
theorem tree_Fits_ok {x0 : Int} {x1 : Int} {res : Bool} {w0 : World} (hS : tree_Fits x0 x1 = some res) (hG : GW w0) : Calls Tryz.prog 49 [.int .i64 x0, .int .i64 x1].toArray w0 (Ret fun v w => v = .bool res ∧ Ext w0 w) := by
 refine en func49 [0, 1] [_, _] fun Q a Zi Z hzs H h hr => ?_
 clear hzs
 unfold tree_Fits at hS
 refine rg fun K k => ?_
 refine cps 1 h rfl fun a h => ?_
 refine cz k ?_
 refine rg fun K k => ?_
 obtain ⟨c2, hS⟩ := ck hS
 obtain ⟨z3, e3, hS⟩ := bv hS
 refine z_callR (data := z3) h H rfl rfl rfl ((by rw [e3]; exact dC call64 (lib_fields c2 (hG.ext H.out)))) fun v7_4 Z w hsub X H r7_4 a h => ?_
 refine cps 1 h rfl fun a h => ?_
 refine cz k ?_
 refine sq ?_
 refine rg fun K k => ?_
 refine cps 1 h rfl fun a h => ?_
 refine sB h hS rfl (v_lt rfl rfl) fun z6 e6 hS a h => ?_
 refine cps 1 h rfl fun a h => ?_
 refine st_g h rfl rfl (gF rfl) rfl rfl (fun e0 => v_move rfl) fun a h => ?_
 refine st_g h rfl rfl (gF rfl) rfl rfl (fun e0 => v_move rfl) fun a h => ?_
 refine st_g h rfl rfl (gF rfl) rfl rfl (fun e0 => v_len underlying116 (eg e0 rfl) (r7_4.at H.zin)) fun a h => ?_
 obtain ⟨z7, e7, hS⟩ := bv hS
 refine st_g h rfl rfl (gF rfl) rfl rfl (fun e0 => vB e7 (v_gt (eg e0 rfl) (eg e0 rfl))) fun a h => ?_
 refine sB h hS rfl (v_or rfl rfl) fun z8 e8 hS a h => ?_
 refine cN k h [0, 1, 5, 15] [_, _, _, _] fun h => ?_
 refine cI h hS rfl (fun ec9 hS => ?_) fun ec9 hS => ?_
 refine rg fun K k => ?_
 refine cps 1 h rfl fun a h => ?_
 refine cN k h [4] [_] fun h => ?_
 cases hS
 refine r1 hr h rfl rfl ⟨rfl, H.out⟩
 refine c_skip ?_
 refine rg fun K k => ?_
 refine cps 2 h rfl fun a h => ?_
 refine sI h hS rfl (v_subw rfl rfl) fun z10 e10 hS a h => ?_
 obtain ⟨c11, hS⟩ := ck hS
 obtain ⟨z12, e12, hS⟩ := bv hS
 refine st_idx h underlying116 sizeOf9 rfl rfl (r7_4.at H.zin) (fun _ => rfl) z12 c11.1 (by rw [e12]; exact gel_some c11) rfl fun a v19 A19 h => ?_
 refine s1 h rfl (v_loadAt1 rfl A19 isAgg9 rfl) fun a h => ?_
 refine cps 1 h rfl fun a h => ?_
 refine cN k h [1, 6] [_, _] fun h => ?_
 refine rg fun K k => ?_
 refine cps 3 h rfl fun a h => ?_
 refine s1 h rfl (v_slen underlying9 rfl) fun a h => ?_
 refine sI h hS rfl (v_subw rfl rfl) fun z13 e13 hS a h => ?_
 obtain ⟨c14, hS⟩ := ck hS
 refine sI h hS rfl (v_sidx underlying9 rfl rfl c14) fun z15 e15 hS a h => ?_
 refine sI h hS rfl (v_subw rfl rfl) fun z16 e16 hS a h => ?_
 refine sI h hS rfl (v_convInt (by rw [underlying5]; rfl) underlying3 rfl rfl) fun z17 e17 hS a h => ?_
 refine sB h hS rfl (v_ge rfl rfl) fun z18 e18 hS a h => ?_
 refine cps 1 h rfl fun a h => ?_
 refine st_g h rfl rfl (gT rfl) rfl rfl (fun e0 => v_move rfl) fun a h => ?_
 refine st_g h rfl rfl (gT rfl) rfl rfl (fun e0 => v_move rfl) fun a h => ?_
 refine st_g h rfl rfl (gT rfl) rfl rfl (fun e0 => v_move rfl) fun a h => ?_
 refine st_g h rfl rfl (gT rfl) rfl rfl (fun e0 => v_slen underlying9 (eg e0 rfl)) fun a h => ?_
 obtain ⟨z19, e19, hS⟩ := bv hS
 refine st_g h rfl rfl (gT rfl) rfl rfl (fun e0 => vI e19 (v_subw (eg e0 rfl) rfl)) fun a h => ?_
 obtain ⟨c20, hS⟩ := ck hS
 obtain ⟨z21, e21, hS⟩ := bv hS
 refine st_g h rfl rfl (gT rfl) rfl rfl (fun e0 => vI e21 (v_sidx underlying9 (eg e0 rfl) (eg e0 rfl) (c20 e0))) fun a h => ?_
 obtain ⟨z22, e22, hS⟩ := bv hS
 refine st_g h rfl rfl (gT rfl) rfl rfl (fun e0 => vI e22 (v_subw (eg e0 rfl) rfl)) fun a h => ?_
 obtain ⟨z23, e23, hS⟩ := bv hS
 refine st_g h rfl rfl (gT rfl) rfl rfl (fun e0 => vI e23 (v_convInt (by rw [underlying5]; rfl) underlying3 (eg e0 rfl) rfl)) fun a h => ?_
 obtain ⟨z24, e24, hS⟩ := bv hS
 refine st_g h rfl rfl (gT rfl) rfl rfl (fun e0 => vB e24 (v_le (eg e0 rfl) (eg e0 rfl))) fun a h => ?_
 refine sB h hS rfl (v_and rfl rfl) fun z25 e25 hS a h => ?_
 refine cps 1 h rfl fun a h => ?_
 refine cN k h [4] [_] fun h => ?_
 cases hS
 refine r1 hr h rfl rfl ⟨rfl, H.out⟩
theorem lists_numbers_ok {x0 : List (V)} {res : (List (Int))} {w0 : World} (hS : lists_numbers x0 = some res) {xv0 : Value} (rp0 : RdZ (hz w0) xv0 3 vL x0) : Calls Tryz.prog 241 [xv0].toArray w0 (Ret fun v w => RdZ (ZB Z0 w0.heap.size w) v 1 (eI .i64) res ∧ Ext w0 w) := by
 refine en func241 [0] [_] fun Q a Zi Z hzs H h hr => ?_
 have rp0 := rp0.sub hzs
 clear hzs
 unfold lists_numbers at hS
 refine rg fun K k => ?_
 refine cps 1 h rfl fun a h => ?_
 refine cz k ?_
 refine rg fun K k => ?_
 refine cps 1 h rfl fun a h => ?_
 refine cz k ?_
 have H := H.nilRow 2 1 rfl
 have H : HZ w0 _ _ [_] _ := H
 obtain ⟨J2, eJ2, hS⟩ := bv hS
 refine sqJ (fun a w => ∃ (Z : FZ) (s2 : (List (Int))) (sv3 : Value), J2 s2 = some res ∧ Fr 22 [(3, sv3)] a ∧ HZ w0 Zi Z [.row 2 1 sv3 (s2 : List (Int)).length ((s2 : List (Int)).flatMap (eI .i64))] w) ?_ ?_
 rintro a w ⟨Z, s2, sv3, hS, h, H⟩
 subst eJ2
 refine rg fun K k => ?_
 refine cps 2 h rfl fun a h => ?_
 refine cz k ?_
 cases hS
 refine r1 hr h rfl rfl ⟨(H.backRow (i := 0) rfl), H.out⟩
 refine rg fun K k => ?_
 refine cps 1 h rfl fun a h => ?_
 refine s1 h rfl (v_len underlying63 rfl (rp0.at H.zin)) fun a h => ?_
 refine cps 1 h rfl fun a h => ?_
 refine cz k ?_
 refine lb ?_
 obtain ⟨B5, eB5, hS⟩ := bv hS
 refine lpJ (fun mu_ a w => ∃ (Z : FZ) (s5 : Int × (List (Int))) (sv7 : Value), loopF B5 mu_ s5 = some res ∧ Fr 22 [(3, sv7), (6, xv0), (7, .int .i64 (x0.length : Int)), (8, .int .i64 s5.1)] a ∧ HZ w0 Zi Z [.row 2 1 sv7 (s5.2 : List (Int)).length ((s5.2 : List (Int)).flatMap (eI .i64))] w ∧ RdZ Z xv0 3 vL x0) KK ⟨_, _, _, hS, h.to, H, rp0⟩ ?_
 rintro mu_ a w ⟨Z, s5, sv7, hS, h, H, rp0⟩
 obtain ⟨mu_, rfl, n5, en5, hS⟩ := lpX eB5 hS
 refine rg fun K k => ?_
 refine sB h hS rfl (v_lt rfl rfl) fun z8 e8 hS a h => ?_
 refine cz k ?_
 refine sq ?_
 refine cI h hS rfl (fun ec10 hS => ?_) fun ec10 hS => ?_
 refine c_skip ?_
 refine sb ?_
 refine rg fun K k => ?_
 obtain ⟨c12, hS⟩ := ck hS
 obtain ⟨z13, e13, hS⟩ := bv hS
 refine st_idx h underlying63 sizeOf26 rfl rfl (rp0.at H.zin) (fun _ => rfl) z13 c12.1 (by rw [e13]; exact gel_some c12) rfl fun a v10 A10 h => ?_
 refine s1 h rfl (v_loadAtA [_, _, _] rfl A10 isAgg26 sizeOf26 rfl rfl) fun a h => ?_
 refine zA h H zeroValue26 [_, _, _] (fun x => [_, x]) fun a p14 w X H h => ?_
 have A10 := At.ext A10 X
 refine zS h H 1 sizeOf26 [_, _, _] [_, _, _] [_, _] fun w H => ?_
 refine cz k ?_
 refine rg fun K k => ?_
 refine s1 h rfl (v_fieldAddr rfl underlying26 rfl sizeOf3 rfl rfl) fun a h => ?_
 refine s1 h rfl (l1 H 1 isAgg3) fun a h => ?_
 refine sB h hS rfl (v_eq rfl rfl) fun z15 e15 hS a h => ?_
 refine cN k h [3, 5, 6, 7, 8, 14] [_, _, _, _, _, _] fun h => ?_
 refine cI h hS rfl (fun ec16 hS => ?_) fun ec16 hS => ?_
 refine c_lregion ?_
 refine cps 1 h rfl fun a h => ?_
 refine s1 h rfl (v_fieldAddr rfl underlying26 rfl sizeOf2 rfl rfl) fun a h => ?_
 refine s1 h rfl (l1 H 1 isAgg2) fun a h => ?_
 refine z_slice (enc := (eI .i64)) ([z13.n] : List (Int)) h H underlying231 sizeOf2 zeroValue2 rfl (zl := [.int .i64 0]) (by kernel_rfl) (plA_get 1 1) [_] [_] rfl rfl rfl rfl rfl fun a v18_17 Z w hsub X H r18_17 h => ?_
 have rp0 := rp0.sub hsub
 obtain ⟨c19, hS⟩ := ck hS
 obtain ⟨z20, e20, hS⟩ := bv hS
 refine z_appendS (enc := (eI .i64)) (out := s5.2) (data := [z13.n]) h H 0 rfl underlying231 app2 rfl rfl rfl r18_17 (fun _ => rfl) (fun _ _ => rfl) c19 rfl fun a v19_18 w H h => ?_
 rw [← e20] at H
 have H : HZ w0 _ _ [_, _] _ := H
 refine cps 1 h rfl fun a h => ?_
 refine c_lnil ?_
 refine cO h [3, 6, 7, 8] [_, _, _, _] fun h => ?_
 refine c_lregion ?_
 refine sI h hS rfl (v_addw rfl rfl) fun z21 e21 hS a h => ?_
 refine cps 1 h rfl fun a h => ?_
 refine c_lnil ?_
 exact exL (ex3 ⟨lpN en5 hS, h.to, (H.keepN 1 rfl), rp0⟩)
 refine c_skip ?_
 refine c_lregion ?_
 refine sI h hS rfl (v_addw rfl rfl) fun z22 e22 hS a h => ?_
 refine cps 1 h rfl fun a h => ?_
 refine c_lnil ?_
 exact exL (ex3 ⟨lpN en5 hS, h.to, (H.keepN 1 rfl), rp0⟩)
 exact c_exit (ex3 ⟨hS, h.to, H⟩)
theorem lists_Sum_ok {x0 : List (V)} {res : V} {w0 : World} (hS : lists_Sum x0 = some res) {xv0 : Value} (rp0 : RdZ (hz w0) xv0 3 vL x0) : Calls Tryz.prog 214 [xv0].toArray w0 (Ret fun v w => v = .agg #[.int .i64 res.k, .int .i64 res.n, S res.s] ∧ Ext w0 w) := by
 refine en func214 [0] [_] fun Q a Zi Z hzs H h hr => ?_
 have rp0 := rp0.sub hzs
 clear hzs
 unfold lists_Sum at hS
 refine rg fun K k => ?_
 refine zA h H zeroValue26 [_, _, _] (fun x => [x]) fun a p1 w X H h => ?_
 refine cz k ?_
 refine rg fun K k => ?_
 refine cps 2 h rfl fun a h => ?_
 refine cz k ?_
 obtain ⟨J3, eJ3, hS⟩ := bv hS
 refine sqJ (fun a w => ∃ (Z : FZ) (s3 : Int × Bool), J3 s3 = some res ∧ Fr 25 [(2, .pointer (some ⟨p1, 0, none⟩)), (3, .int .i64 s3.1), (4, .bool s3.2)] a ∧ HZ w0 Zi Z [.blk p1 (Cel [.int .i64 0, .int .i64 0, S []] 26)] w) ?_ ?_
 rintro a w ⟨Z, s3, hS, h, H⟩
 subst eJ3
 refine rg fun K k => ?_
 refine cps 2 h rfl fun a h => ?_
 refine sC h H hS rfl (fun y4 f4 => dC call116 (value_Made_ok f4 :)) fun y4 hS w X H a h => ?_
 refine zS h H 0 sizeOf26 [_, _, _] [_, _, _] [_] fun w H => ?_
 refine cN k h [2] [_] fun h => ?_
 cases hS
 refine r1 hr h rfl (rvA H 0 isAgg26 sizeOf26 [_, _, _]) ⟨rfl, H.out⟩
 refine rg fun K k => ?_
 refine cps 1 h rfl fun a h => ?_
 obtain ⟨y5, f5, hS⟩ := bo hS
 refine z_callR (data := y5) h H rfl rfl rfl (dC call241 (lists_numbers_ok (x0 := x0) f5 (rp0.hz H.zin))) fun v8_6 Z w hsub X H r8_6 a h => ?_
 have rp0 := rp0.sub hsub
 refine s1 h rfl (v_len underlying231 rfl (r8_6.at H.zin)) fun a h => ?_
 refine cps 1 h rfl fun a h => ?_
 refine cz k ?_
 refine lb ?_
 obtain ⟨B8, eB8, hS⟩ := bv hS
 refine lpJ (fun mu_ a w => ∃ (Z : FZ) (s8 : Int × Bool × Int), loopF B8 mu_ s8 = some res ∧ Fr 25 [(2, .pointer (some ⟨p1, 0, none⟩)), (3, .int .i64 s8.1), (4, .bool s8.2.1), (8, v8_6), (9, .int .i64 (y5.length : Int)), (10, .int .i64 s8.2.2)] a ∧ HZ w0 Zi Z [.blk p1 (Cel [.int .i64 0, .int .i64 0, S []] 26)] w ∧ RdZ Z v8_6 1 (eI .i64) y5) KK ⟨_, _, hS, h.to, H, r8_6⟩ ?_
 rintro mu_ a w ⟨Z, s8, hS, h, H, r8_6⟩
 obtain ⟨mu_, rfl, n8, en8, hS⟩ := lpX eB8 hS
 refine rg fun K k => ?_
 refine sB h hS rfl (v_lt rfl rfl) fun z10 e10 hS a h => ?_
 refine cz k ?_
 refine sq ?_
 refine cI h hS rfl (fun ec12 hS => ?_) fun ec12 hS => ?_
 refine c_skip ?_
 refine sb ?_
 refine rg fun K k => ?_
 obtain ⟨c14, hS⟩ := ck hS
 obtain ⟨z15, e15, hS⟩ := bv hS
 refine st_idx h underlying231 sizeOf2 rfl rfl (r8_6.at H.zin) (fun _ => rfl) z15 c14.1 (by rw [e15]; exact gel_some c14) rfl fun a v12 A12 h => ?_
 refine s1 h rfl (v_loadAt1 rfl A12 isAgg2 rfl) fun a h => ?_
 refine cps 1 h rfl fun a h => ?_
 refine cz k ?_
 refine rg fun K k => ?_
 refine cps 1 h rfl fun a h => ?_
 refine cz k ?_
 refine cI h hS rfl (fun ec16 hS => ?_) fun ec16 hS => ?_
 refine c_lregion ?_
 refine cps 2 h rfl fun a h => ?_
 refine sC h H hS rfl (fun y17 f17 => dC call57 (num_Add_ok f17 :)) fun y17 hS w X H a h => ?_
 have A12 := At.ext A12 X
 refine cps 5 h rfl fun a h => ?_
 refine c_lnil ?_
 refine cO h [2, 3, 4, 8, 9, 10] [_, _, _, _, _, _] fun h => ?_
 refine c_lregion ?_
 refine sI h hS rfl (v_addw rfl rfl) fun z18 e18 hS a h => ?_
 refine cps 1 h rfl fun a h => ?_
 refine c_lnil ?_
 exact exL (ex2 ⟨lpN en8 hS, h.to, H, r8_6⟩)
 refine c_skip ?_
 refine cO h [2, 3, 4, 8, 9, 10] [_, _, _, _, _, _] fun h => ?_
 refine c_lregion ?_
 refine sI h hS rfl (v_addw rfl rfl) fun z19 e19 hS a h => ?_
 refine cps 1 h rfl fun a h => ?_
 refine c_lnil ?_
 exact exL (ex2 ⟨lpN en8 hS, h.to, H, r8_6⟩)
 exact c_exit (ex2 ⟨hS, h.to, H⟩)
end Go.Proofs.YtcecjdnkcbfhlaaGreatDoor
