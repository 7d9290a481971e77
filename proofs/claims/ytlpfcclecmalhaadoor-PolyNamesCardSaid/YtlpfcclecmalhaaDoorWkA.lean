/- Walks: the code computes what the partial functions say. -/
import Derived.Test.YtlpfcclecmalhaaDoorSpA
import Derived.Test.YtlpfcclecmalhaaDoorLibC
set_option linter.unusedSimpArgs false
set_option linter.unusedVariables false
set_option linter.unusedSectionVars false
namespace Go.Proofs.YtlpfcclecmalhaaDoor
open Go.Stp Go.RowKit Go.ValP Go.Sp _root_.Go.Proofs.Tryd
set_option maxRecDepth 100000
theorem bits_Div64_ok {x0 : Int} {x1 : Int} {x2 : Int} {res : Int × Int} {w0 : World} (hS : bits_Div64 x0 x1 x2 = some res) : Calls Tryd.prog 60 [.int .u64 x0, .int .u64 x1, .int .u64 x2].toArray w0 (Ret fun v w => v = .tuple #[.int .u64 res.1, .int .u64 res.2] ∧ Ext w0 w) := by
 refine en func60 [0, 1, 2] [_, _, _] fun Q a Zi Z hzs H h hr => ?_
 clear hzs
 unfold bits_Div64 at hS
 refine rg fun K k => ?_
 refine cps 2 h rfl fun a h => ?_
 refine cz k ?_
 obtain ⟨J2, eJ2, hS⟩ := bv hS
 refine sqJ (fun a w => ∃ (Z : FZ) (s2 : Unit), J2 s2 = some res ∧ Fr 135 [(0, .int .u64 x0), (1, .int .u64 x1), (2, .int .u64 x2)] a ∧ HZ w0 Zi Z [] w) ?_ ?_
 rintro a w ⟨Z, s2, hS, h, H⟩
 subst eJ2
 obtain ⟨J4, eJ4, hS⟩ := bv hS
 refine sqJ (fun a w => ∃ (Z : FZ) (s4 : Unit), J4 s4 = some res ∧ Fr 135 [(0, .int .u64 x0), (1, .int .u64 x1), (2, .int .u64 x2)] a ∧ HZ w0 Zi Z [] w) ?_ ?_
 rintro a w ⟨Z, s4, hS, h, H⟩
 subst eJ4
 refine sq ?_
 refine rg fun K k => ?_
 refine cps 1 h rfl fun a h => ?_
 refine sB h hS rfl (v_eq rfl rfl) fun z6 e6 hS a h => ?_
 refine cz k ?_
 refine cI h hS rfl (fun ec7 hS => ?_) fun ec7 hS => ?_
 refine fl h ?_
 refine fcps 2 rfl ?_
 obtain ⟨c8, hS⟩ := ck hS
 refine fI hS rfl (fun w X => v_quow rfl rfl c8) fun z9 e9 hS => ?_
 refine fcps 2 rfl ?_
 obtain ⟨c10, hS⟩ := ck hS
 refine fI hS rfl (fun w X => v_rem rfl rfl c10) fun z11 e11 hS => ?_
 refine fcps 2 rfl ?_
 refine fE [6, 7] [_, _] H fun a w X H h => ?_
 cases hS
 refine r2 hr h rfl rfl rfl ⟨rfl, H.out⟩
 refine c_skip ?_
 refine rg fun K k => ?_
 refine cps 1 h rfl fun a h => ?_
 obtain ⟨c13, hS⟩ := ck hS
 obtain ⟨z14, e14, hS⟩ := bv hS
 refine st2v (T := Ext) (V := .int .i64 z14) h rfl rfl rfl ((by rw [e14]; exact dC call82 (lib_lz64 c13))) fun w X a h => ?_
 have H := H.ext X
 refine sI h hS rfl (v_convInt (by rw [underlying3]; rfl) underlying75 rfl rfl) fun z15 e15 hS a h => ?_
 refine cps 1 h rfl fun a h => ?_
 refine cN k h [0, 1, 2, 8] [_, _, _, _] fun h => ?_
 refine rg fun K k => ?_
 refine cps 2 h rfl fun a h => ?_
 obtain ⟨c16, hS⟩ := ck hS
 refine sI h hS rfl (v_shl rfl rfl c16) fun z17 e17 hS a h => ?_
 refine cps 1 h rfl fun a h => ?_
 refine cz k ?_
 refine rg fun K k => ?_
 refine cps 1 h rfl fun a h => ?_
 obtain ⟨c18, hS⟩ := ck hS
 refine sI h hS rfl (v_shr rfl rfl c18) fun z19 e19 hS a h => ?_
 refine cps 1 h rfl fun a h => ?_
 refine cN k h [0, 1, 2, 8, 9] [_, _, _, _, _] fun h => ?_
 refine rg fun K k => ?_
 refine cps 1 h rfl fun a h => ?_
 refine sI h hS rfl (v_bits_and rfl rfl) fun z20 e20 hS a h => ?_
 refine cps 1 h rfl fun a h => ?_
 refine cz k ?_
 refine rg fun K k => ?_
 refine cps 2 h rfl fun a h => ?_
 obtain ⟨c21, hS⟩ := ck hS
 refine sI h hS rfl (v_shl rfl rfl c21) fun z22 e22 hS a h => ?_
 refine cps 2 h rfl fun a h => ?_
 refine sI h hS rfl (v_subw rfl rfl) fun z23 e23 hS a h => ?_
 obtain ⟨c24, hS⟩ := ck hS
 refine sI h hS rfl (v_shr rfl rfl c24) fun z25 e25 hS a h => ?_
 refine sI h hS rfl (v_bits_or rfl rfl) fun z26 e26 hS a h => ?_
 refine cps 1 h rfl fun a h => ?_
 refine cN k h [1, 2, 8, 9, 10, 11] [_, _, _, _, _, _] fun h => ?_
 refine rg fun K k => ?_
 refine cps 2 h rfl fun a h => ?_
 obtain ⟨c27, hS⟩ := ck hS
 refine sI h hS rfl (v_shl rfl rfl c27) fun z28 e28 hS a h => ?_
 refine cps 1 h rfl fun a h => ?_
 refine cN k h [2, 8, 9, 10, 11, 12] [_, _, _, _, _, _] fun h => ?_
 refine rg fun K k => ?_
 refine cps 1 h rfl fun a h => ?_
 obtain ⟨c29, hS⟩ := ck hS
 refine sI h hS rfl (v_shr rfl rfl c29) fun z30 e30 hS a h => ?_
 refine cps 1 h rfl fun a h => ?_
 refine cz k ?_
 refine rg fun K k => ?_
 refine cps 1 h rfl fun a h => ?_
 refine sI h hS rfl (v_bits_and rfl rfl) fun z31 e31 hS a h => ?_
 refine cps 1 h rfl fun a h => ?_
 refine cN k h [2, 8, 9, 10, 11, 13, 14] [_, _, _, _, _, _, _] fun h => ?_
 refine rg fun K k => ?_
 refine cps 2 h rfl fun a h => ?_
 obtain ⟨c32, hS⟩ := ck hS
 refine sI h hS rfl (v_quow rfl rfl c32) fun z33 e33 hS a h => ?_
 refine cps 1 h rfl fun a h => ?_
 refine cz k ?_
 refine rg fun K k => ?_
 refine cps 3 h rfl fun a h => ?_
 refine sI h hS rfl (v_mulw rfl rfl) fun z34 e34 hS a h => ?_
 refine sI h hS rfl (v_subw rfl rfl) fun z35 e35 hS a h => ?_
 refine cps 1 h rfl fun a h => ?_
 refine cN k h [2, 8, 9, 10, 11, 13, 14, 15, 16] [_, _, _, _, _, _, _, _, _] fun h => ?_
 obtain ⟨J37, eJ37, hS⟩ := bv hS
 refine sbJ (fun a w => ∃ (Z : FZ) (s37 : Int), J37 s37 = some res ∧ Fr 135 [(2, .int .u64 z17), (8, .int .u64 z15), (9, .int .u64 z19), (10, .int .u64 z20), (11, .int .u64 z26), (13, .int .u64 z30), (14, .int .u64 z31), (15, .int .u64 s37)] a ∧ HZ w0 Zi Z [] w) ?_ ?_
 rintro a w ⟨Z, s37, hS, h, H⟩
 subst eJ37
 refine rg fun K k => ?_
 refine cps 1 h rfl fun a h => ?_
 refine sI h hS rfl (v_mulw rfl rfl) fun z38 e38 hS a h => ?_
 refine cps 1 h rfl fun a h => ?_
 refine sI h hS rfl (v_addw rfl rfl) fun z39 e39 hS a h => ?_
 refine cps 2 h rfl fun a h => ?_
 refine sI h hS rfl (v_mulw rfl rfl) fun z40 e40 hS a h => ?_
 refine sI h hS rfl (v_subw rfl rfl) fun z41 e41 hS a h => ?_
 refine cps 1 h rfl fun a h => ?_
 refine cN k h [2, 8, 9, 10, 14, 15, 17] [_, _, _, _, _, _, _] fun h => ?_
 refine rg fun K k => ?_
 refine cps 2 h rfl fun a h => ?_
 obtain ⟨c42, hS⟩ := ck hS
 refine sI h hS rfl (v_quow rfl rfl c42) fun z43 e43 hS a h => ?_
 refine cps 1 h rfl fun a h => ?_
 refine cz k ?_
 refine rg fun K k => ?_
 refine cps 3 h rfl fun a h => ?_
 refine sI h hS rfl (v_mulw rfl rfl) fun z44 e44 hS a h => ?_
 refine sI h hS rfl (v_subw rfl rfl) fun z45 e45 hS a h => ?_
 refine cps 1 h rfl fun a h => ?_
 refine cN k h [2, 8, 9, 10, 14, 15, 16, 17, 18] [_, _, _, _, _, _, _, _, _] fun h => ?_
 obtain ⟨J47, eJ47, hS⟩ := bv hS
 refine sbJ (fun a w => ∃ (Z : FZ) (s47 : Int), J47 s47 = some res ∧ Fr 135 [(2, .int .u64 z17), (8, .int .u64 z15), (14, .int .u64 z31), (15, .int .u64 s37), (17, .int .u64 z41), (18, .int .u64 s47)] a ∧ HZ w0 Zi Z [] w) ?_ ?_
 rintro a w ⟨Z, s47, hS, h, H⟩
 subst eJ47
 refine rg fun K k => ?_
 refine cps 1 h rfl fun a h => ?_
 refine sI h hS rfl (v_mulw rfl rfl) fun z48 e48 hS a h => ?_
 refine cps 1 h rfl fun a h => ?_
 refine sI h hS rfl (v_addw rfl rfl) fun z49 e49 hS a h => ?_
 refine cps 1 h rfl fun a h => ?_
 refine sI h hS rfl (v_mulw rfl rfl) fun z50 e50 hS a h => ?_
 refine cps 1 h rfl fun a h => ?_
 refine sI h hS rfl (v_addw rfl rfl) fun z51 e51 hS a h => ?_
 refine cps 2 h rfl fun a h => ?_
 refine sI h hS rfl (v_mulw rfl rfl) fun z52 e52 hS a h => ?_
 refine sI h hS rfl (v_subw rfl rfl) fun z53 e53 hS a h => ?_
 refine cps 1 h rfl fun a h => ?_
 obtain ⟨c54, hS⟩ := ck hS
 refine sI h hS rfl (v_shr rfl rfl c54) fun z55 e55 hS a h => ?_
 refine cps 2 h rfl fun a h => ?_
 refine cN k h [6, 7] [_, _] fun h => ?_
 cases hS
 refine r2 hr h rfl rfl rfl ⟨rfl, H.out⟩
 obtain ⟨B56, eB56, hS⟩ := bv hS
 refine lpJ (fun mu_ a w => ∃ (Z : FZ) (s56 : Int × Int), loopF B56 mu_ s56 = some res ∧ Fr 135 [(2, .int .u64 z17), (8, .int .u64 z15), (9, .int .u64 z19), (10, .int .u64 z20), (14, .int .u64 z31), (15, .int .u64 s37), (16, .int .u64 s56.1), (17, .int .u64 z41), (18, .int .u64 s56.2)] a ∧ HZ w0 Zi Z [] w) KK ⟨_, _, hS, h.to, H⟩ ?_
 rintro mu_ a w ⟨Z, s56, hS, h, H⟩
 obtain ⟨mu_, rfl, n56, en56, hS⟩ := lpX eB56 hS
 refine sq ?_
 refine rg fun K k => ?_
 refine cps 1 h rfl fun a h => ?_
 refine sB h hS rfl (v_ge rfl rfl) fun z59 e59 hS a h => ?_
 refine cps 1 h rfl fun a h => ?_
 refine st_g h rfl rfl (gF rfl) rfl rfl (fun e0 => v_move rfl) fun a h => ?_
 refine st_g h rfl rfl (gF rfl) rfl rfl (fun e0 => v_move rfl) fun a h => ?_
 obtain ⟨z60, e60, hS⟩ := bv hS
 refine st_g h rfl rfl (gF rfl) rfl rfl (fun e0 => vI e60 (v_mulw (eg e0 rfl) (eg e0 rfl))) fun a h => ?_
 refine st_g h rfl rfl (gF rfl) rfl rfl (fun e0 => v_move rfl) fun a h => ?_
 obtain ⟨z61, e61, hS⟩ := bv hS
 refine st_g h rfl rfl (gF rfl) rfl rfl (fun e0 => vI e61 (v_mulw rfl (eg e0 rfl))) fun a h => ?_
 refine st_g h rfl rfl (gF rfl) rfl rfl (fun e0 => v_move rfl) fun a h => ?_
 obtain ⟨z62, e62, hS⟩ := bv hS
 refine st_g h rfl rfl (gF rfl) rfl rfl (fun e0 => vI e62 (v_addw (eg e0 rfl) (eg e0 rfl))) fun a h => ?_
 obtain ⟨z63, e63, hS⟩ := bv hS
 refine st_g h rfl rfl (gF rfl) rfl rfl (fun e0 => vB e63 (v_gt (eg e0 rfl) (eg e0 rfl))) fun a h => ?_
 refine sB h hS rfl (v_or rfl rfl) fun z64 e64 hS a h => ?_
 refine cN k h [2, 8, 9, 10, 14, 15, 16, 17, 18, 113] [_, _, _, _, _, _, _, _, _, _] fun h => ?_
 refine cI h hS rfl (fun ec65 hS => ?_) fun ec65 hS => ?_
 refine c_skip ?_
 refine lb ?_
 refine rg fun K k => ?_
 refine cps 1 h rfl fun a h => ?_
 refine sI h hS rfl (v_subw rfl rfl) fun z67 e67 hS a h => ?_
 refine cps 1 h rfl fun a h => ?_
 refine cz k ?_
 refine rg fun K k => ?_
 refine cps 2 h rfl fun a h => ?_
 refine sI h hS rfl (v_addw rfl rfl) fun z68 e68 hS a h => ?_
 refine cps 1 h rfl fun a h => ?_
 refine cN k h [2, 8, 9, 10, 14, 15, 16, 17, 18] [_, _, _, _, _, _, _, _, _] fun h => ?_
 refine rg fun K k => ?_
 refine cps 1 h rfl fun a h => ?_
 refine sB h hS rfl (v_ge rfl rfl) fun z69 e69 hS a h => ?_
 refine cz k ?_
 refine cI h hS rfl (fun ec70 hS => ?_) fun ec70 hS => ?_
 exact c_exit (ex2 ⟨hS, h.to, H⟩)
 exact c_skip (exL (ex2 ⟨lpN en56 hS, h.to, H⟩))
 exact c_exit (ex2 ⟨hS, h.to, H⟩)
 obtain ⟨B71, eB71, hS⟩ := bv hS
 refine lpJ (fun mu_ a w => ∃ (Z : FZ) (s71 : Int × Int), loopF B71 mu_ s71 = some res ∧ Fr 135 [(2, .int .u64 z17), (8, .int .u64 z15), (9, .int .u64 z19), (10, .int .u64 z20), (11, .int .u64 z26), (13, .int .u64 z30), (14, .int .u64 z31), (15, .int .u64 s71.1), (16, .int .u64 s71.2)] a ∧ HZ w0 Zi Z [] w) KK ⟨_, _, hS, h.to, H⟩ ?_
 rintro mu_ a w ⟨Z, s71, hS, h, H⟩
 obtain ⟨mu_, rfl, n71, en71, hS⟩ := lpX eB71 hS
 refine sq ?_
 refine rg fun K k => ?_
 refine cps 1 h rfl fun a h => ?_
 refine sB h hS rfl (v_ge rfl rfl) fun z74 e74 hS a h => ?_
 refine cps 1 h rfl fun a h => ?_
 refine st_g h rfl rfl (gF rfl) rfl rfl (fun e0 => v_move rfl) fun a h => ?_
 refine st_g h rfl rfl (gF rfl) rfl rfl (fun e0 => v_move rfl) fun a h => ?_
 obtain ⟨z75, e75, hS⟩ := bv hS
 refine st_g h rfl rfl (gF rfl) rfl rfl (fun e0 => vI e75 (v_mulw (eg e0 rfl) (eg e0 rfl))) fun a h => ?_
 refine st_g h rfl rfl (gF rfl) rfl rfl (fun e0 => v_move rfl) fun a h => ?_
 obtain ⟨z76, e76, hS⟩ := bv hS
 refine st_g h rfl rfl (gF rfl) rfl rfl (fun e0 => vI e76 (v_mulw rfl (eg e0 rfl))) fun a h => ?_
 refine st_g h rfl rfl (gF rfl) rfl rfl (fun e0 => v_move rfl) fun a h => ?_
 obtain ⟨z77, e77, hS⟩ := bv hS
 refine st_g h rfl rfl (gF rfl) rfl rfl (fun e0 => vI e77 (v_addw (eg e0 rfl) (eg e0 rfl))) fun a h => ?_
 obtain ⟨z78, e78, hS⟩ := bv hS
 refine st_g h rfl rfl (gF rfl) rfl rfl (fun e0 => vB e78 (v_gt (eg e0 rfl) (eg e0 rfl))) fun a h => ?_
 refine sB h hS rfl (v_or rfl rfl) fun z79 e79 hS a h => ?_
 refine cN k h [2, 8, 9, 10, 11, 13, 14, 15, 16, 78] [_, _, _, _, _, _, _, _, _, _] fun h => ?_
 refine cI h hS rfl (fun ec80 hS => ?_) fun ec80 hS => ?_
 refine c_skip ?_
 refine lb ?_
 refine rg fun K k => ?_
 refine cps 1 h rfl fun a h => ?_
 refine sI h hS rfl (v_subw rfl rfl) fun z82 e82 hS a h => ?_
 refine cps 1 h rfl fun a h => ?_
 refine cz k ?_
 refine rg fun K k => ?_
 refine cps 2 h rfl fun a h => ?_
 refine sI h hS rfl (v_addw rfl rfl) fun z83 e83 hS a h => ?_
 refine cps 1 h rfl fun a h => ?_
 refine cN k h [2, 8, 9, 10, 11, 13, 14, 15, 16] [_, _, _, _, _, _, _, _, _] fun h => ?_
 refine rg fun K k => ?_
 refine cps 1 h rfl fun a h => ?_
 refine sB h hS rfl (v_ge rfl rfl) fun z84 e84 hS a h => ?_
 refine cz k ?_
 refine cI h hS rfl (fun ec85 hS => ?_) fun ec85 hS => ?_
 exact c_exit (ex2 ⟨hS, h.to, H⟩)
 exact c_skip (exL (ex2 ⟨lpN en71 hS, h.to, H⟩))
 exact c_exit (ex2 ⟨hS, h.to, H⟩)
 refine rg fun K k => ?_
 refine cps 2 h rfl fun a h => ?_
 refine sB h hS rfl (v_le rfl rfl) fun z86 e86 hS a h => ?_
 refine cz k ?_
 refine cI h hS rfl (fun ec87 hS => ?_) fun ec87 hS => ?_
 exact nomatch hS
 exact c_skip (exU1 ⟨hS, h.to, H⟩)
 refine rg fun K k => ?_
 refine cps 1 h rfl fun a h => ?_
 refine sB h hS rfl (v_eq rfl rfl) fun z88 e88 hS a h => ?_
 refine cz k ?_
 refine cI h hS rfl (fun ec89 hS => ?_) fun ec89 hS => ?_
 exact nomatch hS
 exact c_skip (exU1 ⟨hS, h.to, H⟩)

theorem num_fits_ok {x0 : Int} {res : Bool} {w0 : World} (hS : num_fits x0 = some res) : Calls Tryd.prog 58 [.int .i64 x0].toArray w0 (Ret fun v w => v = .bool res ∧ Ext w0 w) := by
 refine en func58 [0] [_] fun Q a Zi Z hzs H h hr => ?_
 clear hzs
 unfold num_fits at hS
 refine rg fun K k => ?_
 refine cps 1 h rfl fun a h => ?_
 refine cz k ?_
 refine rg fun K k => ?_
 refine cps 1 h rfl fun a h => ?_
 refine sB h hS rfl (v_ge rfl rfl) fun z1 e1 hS a h => ?_
 refine cps 1 h rfl fun a h => ?_
 refine cz k ?_
 cases hS
 refine r1 hr h rfl rfl ⟨rfl, H.out⟩

theorem num_Add_ok {x0 : Int} {x1 : Int} {res : Int × Bool} {w0 : World} (hS : num_Add x0 x1 = some res) : Calls Tryd.prog 42 [.int .i64 x0, .int .i64 x1].toArray w0 (Ret fun v w => v = .tuple #[.int .i64 res.1, .bool res.2] ∧ Ext w0 w) := by
 refine en func42 [0, 1] [_, _] fun Q a Zi Z hzs H h hr => ?_
 clear hzs
 unfold num_Add at hS
 refine rg fun K k => ?_
 refine cps 2 h rfl fun a h => ?_
 refine cz k ?_
 refine rg fun K k => ?_
 refine cps 2 h rfl fun a h => ?_
 refine sI h hS rfl (v_addw rfl rfl) fun z1 e1 hS a h => ?_
 refine cps 1 h rfl fun a h => ?_
 refine cN k h [0, 1, 6] [_, _, _] fun h => ?_
 refine rg fun K k => ?_
 refine cps 2 h rfl fun a h => ?_
 refine sC h H hS rfl (fun y2 f2 => dC call58 (num_fits_ok f2 :)) fun y2 hS w X H a h => ?_
 refine cps 1 h rfl fun a h => ?_
 refine st_g h rfl rfl (gT rfl) rfl rfl (fun e0 => v_move rfl) fun a h => ?_
 refine st_g h rfl rfl (gT rfl) rfl rfl (fun e0 => v_move rfl) fun a h => ?_
 obtain ⟨z3, e3, hS⟩ := bv hS
 refine st_g h rfl rfl (gT rfl) rfl rfl (fun e0 => vB e3 (v_gt (eg e0 rfl) (eg e0 rfl))) fun a h => ?_
 refine st_g h rfl rfl (gT rfl) rfl rfl (fun e0 => v_move rfl) fun a h => ?_
 obtain ⟨z4, e4, hS⟩ := bv hS
 refine st_g h rfl rfl (gT rfl) rfl rfl (fun e0 => vB e4 (v_gt (eg e0 rfl) rfl)) fun a h => ?_
 obtain ⟨z5, e5, hS⟩ := bv hS
 refine st_g h rfl rfl (gT rfl) rfl rfl (fun e0 => vB e5 (v_beq underlying4 (eg e0 rfl) (eg e0 rfl))) fun a h => ?_
 refine sB h hS rfl (v_and rfl rfl) fun z6 e6 hS a h => ?_
 refine cps 2 h rfl fun a h => ?_
 refine cN k h [4, 5] [_, _] fun h => ?_
 cases hS
 refine r2 hr h rfl rfl rfl ⟨rfl, H.out⟩

theorem num_abs_ok {x0 : Int} {res : Int} {w0 : World} (hS : num_abs x0 = some res) : Calls Tryd.prog 44 [.int .i64 x0].toArray w0 (Ret fun v w => v = .int .u64 res ∧ Ext w0 w) := by
 refine en func44 [0] [_] fun Q a Zi Z hzs H h hr => ?_
 clear hzs
 unfold num_abs at hS
 refine rg fun K k => ?_
 refine cps 1 h rfl fun a h => ?_
 refine cz k ?_
 refine sq ?_
 refine rg fun K k => ?_
 refine cps 1 h rfl fun a h => ?_
 refine sB h hS rfl (v_lt rfl rfl) fun z2 e2 hS a h => ?_
 refine cz k ?_
 refine cI h hS rfl (fun ec3 hS => ?_) fun ec3 hS => ?_
 refine rg fun K k => ?_
 refine cps 1 h rfl fun a h => ?_
 refine sI h hS rfl (v_convInt (by rw [underlying2]; rfl) underlying84 rfl rfl) fun z4 e4 hS a h => ?_
 refine sI h hS rfl (v_negw rfl) fun z5 e5 hS a h => ?_
 refine cps 1 h rfl fun a h => ?_
 refine cN k h [2] [_] fun h => ?_
 cases hS
 refine r1 hr h rfl rfl ⟨rfl, H.out⟩
 refine c_skip ?_
 refine rg fun K k => ?_
 refine cps 1 h rfl fun a h => ?_
 refine sI h hS rfl (v_convInt (by rw [underlying2]; rfl) underlying84 rfl rfl) fun z6 e6 hS a h => ?_
 refine cps 1 h rfl fun a h => ?_
 refine cN k h [2] [_] fun h => ?_
 cases hS
 refine r1 hr h rfl rfl ⟨rfl, H.out⟩

theorem num_signed_ok {x0 : Int} {x1 : Bool} {res : Int × Bool} {w0 : World} (hS : num_signed x0 x1 = some res) : Calls Tryd.prog 45 [.int .u64 x0, .bool x1].toArray w0 (Ret fun v w => v = .tuple #[.int .i64 res.1, .bool res.2] ∧ Ext w0 w) := by
 refine en func45 [0, 1] [_, _] fun Q a Zi Z hzs H h hr => ?_
 clear hzs
 unfold num_signed at hS
 refine rg fun K k => ?_
 refine cps 2 h rfl fun a h => ?_
 refine cz k ?_
 refine sq ?_
 refine rg fun K k => ?_
 refine cps 1 h rfl fun a h => ?_
 refine sB h hS rfl (v_gt rfl rfl) fun z2 e2 hS a h => ?_
 refine cz k ?_
 refine cI h hS rfl (fun ec3 hS => ?_) fun ec3 hS => ?_
 refine rg fun K k => ?_
 refine cps 2 h rfl fun a h => ?_
 refine cN k h [4, 5] [_, _] fun h => ?_
 cases hS
 refine r2 hr h rfl rfl rfl ⟨rfl, H.out⟩
 refine c_skip ?_
 refine cO h [0, 1] [_, _] fun h => ?_
 refine sq ?_
 refine rg fun K k => ?_
 refine cps 1 h rfl fun a h => ?_
 refine cz k ?_
 refine cI h hS rfl (fun ec5 hS => ?_) fun ec5 hS => ?_
 refine rg fun K k => ?_
 refine cps 1 h rfl fun a h => ?_
 refine sI h hS rfl (v_convInt (by rw [underlying84]; rfl) underlying2 rfl rfl) fun z6 e6 hS a h => ?_
 refine sI h hS rfl (v_negw rfl) fun z7 e7 hS a h => ?_
 refine cps 2 h rfl fun a h => ?_
 refine cN k h [4, 5] [_, _] fun h => ?_
 cases hS
 refine r2 hr h rfl rfl rfl ⟨rfl, H.out⟩
 refine c_skip ?_
 refine rg fun K k => ?_
 refine cps 1 h rfl fun a h => ?_
 refine sI h hS rfl (v_convInt (by rw [underlying84]; rfl) underlying2 rfl rfl) fun z8 e8 hS a h => ?_
 refine cps 2 h rfl fun a h => ?_
 refine cN k h [4, 5] [_, _] fun h => ?_
 cases hS
 refine r2 hr h rfl rfl rfl ⟨rfl, H.out⟩

theorem num_Of_ok {x0 : Int} {res : Int × Bool} {w0 : World} (hS : num_Of x0 = some res) : Calls Tryd.prog 41 [.int .i64 x0].toArray w0 (Ret fun v w => v = .tuple #[.int .i64 res.1, .bool res.2] ∧ Ext w0 w) := by
 refine en func41 [0] [_] fun Q a Zi Z hzs H h hr => ?_
 clear hzs
 unfold num_Of at hS
 refine rg fun K k => ?_
 refine cps 2 h rfl fun a h => ?_
 refine cz k ?_
 refine sq ?_
 refine rg fun K k => ?_
 refine cps 1 h rfl fun a h => ?_
 refine sB h hS rfl (v_gt rfl rfl) fun z2 e2 hS a h => ?_
 refine cps 1 h rfl fun a h => ?_
 refine st_g h rfl rfl (gF rfl) rfl rfl (fun e0 => v_move rfl) fun a h => ?_
 obtain ⟨z3, e3, hS⟩ := bv hS
 refine st_g h rfl rfl (gF rfl) rfl rfl (fun e0 => vB e3 (v_lt (eg e0 rfl) rfl)) fun a h => ?_
 refine sB h hS rfl (v_or rfl rfl) fun z4 e4 hS a h => ?_
 refine cN k h [0, 9] [_, _] fun h => ?_
 refine cI h hS rfl (fun ec5 hS => ?_) fun ec5 hS => ?_
 refine rg fun K k => ?_
 refine cps 2 h rfl fun a h => ?_
 refine cz k ?_
 cases hS
 refine r2 hr h rfl rfl rfl ⟨rfl, H.out⟩
 refine c_skip ?_
 refine rg fun K k => ?_
 refine cps 1 h rfl fun a h => ?_
 refine sI h hS rfl (v_mulw rfl rfl) fun z6 e6 hS a h => ?_
 refine cps 2 h rfl fun a h => ?_
 refine cN k h [2, 3] [_, _] fun h => ?_
 cases hS
 refine r2 hr h rfl rfl rfl ⟨rfl, H.out⟩

theorem num_scaled_ok {x0 : Int} {x1 : Int} {x2 : Int} {res : Int × Bool} {w0 : World} (hS : num_scaled x0 x1 x2 = some res) : Calls Tryd.prog 43 [.int .u64 x0, .int .u64 x1, .int .u64 x2].toArray w0 (Ret fun v w => v = .tuple #[.int .u64 res.1, .bool res.2] ∧ Ext w0 w) := by
 refine en func43 [0, 1, 2] [_, _, _] fun Q a Zi Z hzs H h hr => ?_
 clear hzs
 unfold num_scaled at hS
 refine rg fun K k => ?_
 refine cps 2 h rfl fun a h => ?_
 refine cz k ?_
 refine rg fun K k => ?_
 refine cps 2 h rfl fun a h => ?_
 obtain ⟨c2, hS⟩ := ck hS
 obtain ⟨z3, e3, hS⟩ := bv hS
 refine st2v (T := Ext) (V := .tuple #[.int .u64 z3.1, .int .u64 z3.2]) h rfl rfl rfl ((by rw [e3]; exact dC call59 (lib_mul64 c2))) fun w X a h => ?_
 have H := H.ext X
 refine cps 5 h rfl fun a h => ?_
 refine cN k h [2, 8, 9] [_, _, _] fun h => ?_
 refine sq ?_
 refine rg fun K k => ?_
 refine cps 2 h rfl fun a h => ?_
 refine sB h hS rfl (v_ge rfl rfl) fun z5 e5 hS a h => ?_
 refine cz k ?_
 refine cI h hS rfl (fun ec6 hS => ?_) fun ec6 hS => ?_
 refine rg fun K k => ?_
 refine cps 2 h rfl fun a h => ?_
 refine cN k h [6, 7] [_, _] fun h => ?_
 cases hS
 refine r2 hr h rfl rfl rfl ⟨rfl, H.out⟩
 refine c_skip ?_
 refine rg fun K k => ?_
 refine cps 3 h rfl fun a h => ?_
 refine sC h H hS rfl (fun y7 f7 => dC call60 (bits_Div64_ok f7 :)) fun y7 hS w X H a h => ?_
 refine cps 5 h rfl fun a h => ?_
 refine cN k h [2, 10, 11] [_, _, _] fun h => ?_
 obtain ⟨J9, eJ9, hS⟩ := bv hS
 refine sqJ (fun a w => ∃ (Z : FZ) (s9 : Int), J9 s9 = some res ∧ Fr 45 [(2, .int .u64 x2), (10, .int .u64 s9), (11, .int .u64 y7.2)] a ∧ HZ w0 Zi Z [] w) ?_ ?_
 rintro a w ⟨Z, s9, hS, h, H⟩
 subst eJ9
 refine rg fun K k => ?_
 refine cps 2 h rfl fun a h => ?_
 refine sB h hS rfl (v_ne rfl rfl) fun z10 e10 hS a h => ?_
 refine cps 1 h rfl fun a h => ?_
 refine st_g h rfl rfl (gF rfl) rfl rfl (fun e0 => v_move rfl) fun a h => ?_
 refine st_g h rfl rfl (gF rfl) rfl rfl (fun e0 => v_move rfl) fun a h => ?_
 refine st_g h rfl rfl (gF rfl) rfl rfl (fun e0 => v_move rfl) fun a h => ?_
 obtain ⟨z11, e11, hS⟩ := bv hS
 refine st_g h rfl rfl (gF rfl) rfl rfl (fun e0 => vI e11 (v_subw (eg e0 rfl) (eg e0 rfl))) fun a h => ?_
 obtain ⟨z12, e12, hS⟩ := bv hS
 refine st_g h rfl rfl (gF rfl) rfl rfl (fun e0 => vB e12 (v_lt (eg e0 rfl) (eg e0 rfl))) fun a h => ?_
 refine sB h hS rfl (v_or rfl rfl) fun z13 e13 hS a h => ?_
 refine cps 2 h rfl fun a h => ?_
 refine cN k h [6, 7] [_, _] fun h => ?_
 cases hS
 refine r2 hr h rfl rfl rfl ⟨rfl, H.out⟩
 refine rg fun K k => ?_
 refine cps 3 h rfl fun a h => ?_
 refine sI h hS rfl (v_subw rfl rfl) fun z14 e14 hS a h => ?_
 refine sB h hS rfl (v_ge rfl rfl) fun z15 e15 hS a h => ?_
 refine cN k h [2, 10, 11, 32] [_, _, _, _] fun h => ?_
 refine cI h hS rfl (fun ec16 hS => ?_) fun ec16 hS => ?_
 refine c_lregion ?_
 refine cps 1 h rfl fun a h => ?_
 refine sI h hS rfl (v_addw rfl rfl) fun z17 e17 hS a h => ?_
 refine cps 1 h rfl fun a h => ?_
 refine c_lnil ?_
 exact ex2 ⟨hS, h.to, H⟩
 exact c_skip (ex2 ⟨hS, h.to, H⟩)

theorem num_Mul_ok {x0 : Int} {x1 : Int} {res : Int × Bool} {w0 : World} (hS : num_Mul x0 x1 = some res) : Calls Tryd.prog 24 [.int .i64 x0, .int .i64 x1].toArray w0 (Ret fun v w => v = .tuple #[.int .i64 res.1, .bool res.2] ∧ Ext w0 w) := by
 refine en func24 [0, 1] [_, _] fun Q a Zi Z hzs H h hr => ?_
 clear hzs
 unfold num_Mul at hS
 refine rg fun K k => ?_
 refine cps 2 h rfl fun a h => ?_
 refine cz k ?_
 refine rg fun K k => ?_
 refine cps 1 h rfl fun a h => ?_
 refine sC h H hS rfl (fun y1 f1 => dC call44 (num_abs_ok f1 :)) fun y1 hS w X H a h => ?_
 refine cps 1 h rfl fun a h => ?_
 refine sC h H hS rfl (fun y2 f2 => dC call44 (num_abs_ok f2 :)) fun y2 hS w X H a h => ?_
 refine sC h H hS rfl (fun y3 f3 => dC call43 (num_scaled_ok f3 :)) fun y3 hS w X H a h => ?_
 refine cps 5 h rfl fun a h => ?_
 refine cN k h [0, 1, 6, 7] [_, _, _, _] fun h => ?_
 refine sq ?_
 refine rg fun K k => ?_
 refine cps 1 h rfl fun a h => ?_
 refine sB h hS rfl (v_not rfl) fun z5 e5 hS a h => ?_
 refine cz k ?_
 refine cI h hS rfl (fun ec6 hS => ?_) fun ec6 hS => ?_
 refine rg fun K k => ?_
 refine cps 2 h rfl fun a h => ?_
 refine cN k h [4, 5] [_, _] fun h => ?_
 cases hS
 refine r2 hr h rfl rfl rfl ⟨rfl, H.out⟩
 refine c_skip ?_
 refine rg fun K k => ?_
 refine cps 2 h rfl fun a h => ?_
 refine sB h hS rfl (v_lt rfl rfl) fun z7 e7 hS a h => ?_
 refine cps 1 h rfl fun a h => ?_
 refine sB h hS rfl (v_lt rfl rfl) fun z8 e8 hS a h => ?_
 refine sB h hS rfl (v_bne underlying4 rfl rfl) fun z9 e9 hS a h => ?_
 refine sC h H hS rfl (fun y10 f10 => dC call45 (num_signed_ok f10 :)) fun y10 hS w X H a h => ?_
 refine cps 4 h rfl fun a h => ?_
 refine cN k h [4, 5] [_, _] fun h => ?_
 cases hS
 refine r2 hr h rfl rfl rfl ⟨rfl, H.out⟩

theorem addr_Less_ok {x0 : C} {x1 : C} {res : Bool} {w0 : World} (hS : addr_Less x0 x1 = some res) : Calls Tryd.prog 38 [.agg #[.int .i64 x0.s, .int .i64 x0.c, .int .i64 x0.r], .agg #[.int .i64 x1.s, .int .i64 x1.c, .int .i64 x1.r]].toArray w0 (Ret fun v w => v = .bool res ∧ Ext w0 w) := by
 refine en func38 [0, 1] [_, _] fun Q a Zi Z hzs H h hr => ?_
 clear hzs
 unfold addr_Less at hS
 refine rg fun K k => ?_
 refine z_box h H rfl [_, _, _] rfl rfl fun a p1 w X H h => ?_
 have H : HZ w0 _ _ [_] _ := H
 refine z_box h H rfl [_, _, _] rfl rfl fun a p2 w X H h => ?_
 have H : HZ w0 _ _ [_, _] _ := H
 refine cps 1 h rfl fun a h => ?_
 refine cz k ?_
 refine sq ?_
 refine rg fun K k => ?_
 refine s1 h rfl (v_fieldAddr rfl underlying40 rfl sizeOf3 rfl rfl) fun a h => ?_
 refine s1 h rfl (l1 H 0 isAgg3) fun a h => ?_
 refine s1 h rfl (v_fieldAddr rfl underlying40 rfl sizeOf3 rfl rfl) fun a h => ?_
 refine s1 h rfl (l1 H 1 isAgg3) fun a h => ?_
 refine sB h hS rfl (v_ne rfl rfl) fun z4 e4 hS a h => ?_
 refine cN k h [2, 3, 9] [_, _, _] fun h => ?_
 refine cI h hS rfl (fun ec5 hS => ?_) fun ec5 hS => ?_
 refine rg fun K k => ?_
 refine s1 h rfl (v_fieldAddr rfl underlying40 rfl sizeOf3 rfl rfl) fun a h => ?_
 refine s1 h rfl (l1 H 0 isAgg3) fun a h => ?_
 refine s1 h rfl (v_fieldAddr rfl underlying40 rfl sizeOf3 rfl rfl) fun a h => ?_
 refine s1 h rfl (l1 H 1 isAgg3) fun a h => ?_
 refine sB h hS rfl (v_lt rfl rfl) fun z6 e6 hS a h => ?_
 refine cps 1 h rfl fun a h => ?_
 refine cN k h [4] [_] fun h => ?_
 cases hS
 refine r1 hr h rfl rfl ⟨rfl, H.out⟩
 refine c_skip ?_
 refine sq ?_
 refine rg fun K k => ?_
 refine s1 h rfl (v_fieldAddr rfl underlying40 rfl sizeOf3 rfl rfl) fun a h => ?_
 refine s1 h rfl (l1 H 0 isAgg3) fun a h => ?_
 refine s1 h rfl (v_fieldAddr rfl underlying40 rfl sizeOf3 rfl rfl) fun a h => ?_
 refine s1 h rfl (l1 H 1 isAgg3) fun a h => ?_
 refine sB h hS rfl (v_ne rfl rfl) fun z8 e8 hS a h => ?_
 refine cN k h [2, 3, 19] [_, _, _] fun h => ?_
 refine cI h hS rfl (fun ec9 hS => ?_) fun ec9 hS => ?_
 refine rg fun K k => ?_
 refine s1 h rfl (v_fieldAddr rfl underlying40 rfl sizeOf3 rfl rfl) fun a h => ?_
 refine s1 h rfl (l1 H 0 isAgg3) fun a h => ?_
 refine s1 h rfl (v_fieldAddr rfl underlying40 rfl sizeOf3 rfl rfl) fun a h => ?_
 refine s1 h rfl (l1 H 1 isAgg3) fun a h => ?_
 refine sB h hS rfl (v_lt rfl rfl) fun z10 e10 hS a h => ?_
 refine cps 1 h rfl fun a h => ?_
 refine cN k h [4] [_] fun h => ?_
 cases hS
 refine r1 hr h rfl rfl ⟨rfl, H.out⟩
 refine c_skip ?_
 refine rg fun K k => ?_
 refine s1 h rfl (v_fieldAddr rfl underlying40 rfl sizeOf3 rfl rfl) fun a h => ?_
 refine s1 h rfl (l1 H 0 isAgg3) fun a h => ?_
 refine s1 h rfl (v_fieldAddr rfl underlying40 rfl sizeOf3 rfl rfl) fun a h => ?_
 refine s1 h rfl (l1 H 1 isAgg3) fun a h => ?_
 refine sB h hS rfl (v_lt rfl rfl) fun z11 e11 hS a h => ?_
 refine cps 1 h rfl fun a h => ?_
 refine cN k h [4] [_] fun h => ?_
 cases hS
 refine r1 hr h rfl rfl ⟨rfl, H.out⟩

theorem poly_less_ok {x0 : List (C)} {x1 : List (C)} {res : Int} {w0 : World} (hS : poly_less x0 x1 = some res) {xv0 : Value} (rp0 : RdZ (hz w0) xv0 3 cL x0) {xv1 : Value} (rp1 : RdZ (hz w0) xv1 3 cL x1) : Calls Tryd.prog 53 [xv0, xv1].toArray w0 (Ret fun v w => v = .int .i64 res ∧ Ext w0 w) := by
 refine en func53 [0, 1] [_, _] fun Q a Zi Z hzs H h hr => ?_
 have rp0 := rp0.sub hzs
 have rp1 := rp1.sub hzs
 clear hzs
 unfold poly_less at hS
 refine rg fun K k => ?_
 refine cps 1 h rfl fun a h => ?_
 refine cz k ?_
 refine sq ?_
 refine rg fun K k => ?_
 refine cps 1 h rfl fun a h => ?_
 refine s1 h rfl (v_len underlying33 rfl (rp0.at H.zin)) fun a h => ?_
 refine cps 1 h rfl fun a h => ?_
 refine s1 h rfl (v_len underlying33 rfl (rp1.at H.zin)) fun a h => ?_
 refine sB h hS rfl (v_ne rfl rfl) fun z2 e2 hS a h => ?_
 refine cN k h [0, 1, 10] [_, _, _] fun h => ?_
 refine cI h hS rfl (fun ec3 hS => ?_) fun ec3 hS => ?_
 refine rg fun K k => ?_
 refine cps 1 h rfl fun a h => ?_
 refine s1 h rfl (v_len underlying33 rfl (rp0.at H.zin)) fun a h => ?_
 refine cps 1 h rfl fun a h => ?_
 refine s1 h rfl (v_len underlying33 rfl (rp1.at H.zin)) fun a h => ?_
 refine sI h hS rfl (v_subw rfl rfl) fun z4 e4 hS a h => ?_
 refine cps 1 h rfl fun a h => ?_
 refine cN k h [4] [_] fun h => ?_
 cases hS
 refine r1 hr h rfl rfl ⟨rfl, H.out⟩
 refine c_skip ?_
 obtain ⟨J6, eJ6, hS⟩ := bv hS
 refine sqJ (fun a w => ∃ (Z : FZ) (s6 : Unit), J6 s6 = some res ∧ Fr 40 [] a ∧ HZ w0 Zi Z [] w) ?_ ?_
 rintro a w ⟨Z, s6, hS, h, H⟩
 subst eJ6
 refine rg fun K k => ?_
 refine cps 1 h rfl fun a h => ?_
 refine cz k ?_
 cases hS
 refine r1 hr h rfl rfl ⟨rfl, H.out⟩
 refine rg fun K k => ?_
 refine cps 1 h rfl fun a h => ?_
 refine s1 h rfl (v_len underlying33 rfl (rp0.at H.zin)) fun a h => ?_
 refine cps 1 h rfl fun a h => ?_
 refine cz k ?_
 refine lb ?_
 obtain ⟨B8, eB8, hS⟩ := bv hS
 refine lpJ (fun mu_ a w => ∃ (Z : FZ) (s8 : Int), loopF B8 mu_ s8 = some res ∧ Fr 40 [(0, xv0), (1, xv1), (17, .int .i64 (x0.length : Int)), (18, .int .i64 s8)] a ∧ HZ w0 Zi Z [] w ∧ RdZ Z xv0 3 cL x0 ∧ RdZ Z xv1 3 cL x1) KK ⟨_, _, hS, h.to, H, rp0, rp1⟩ ?_
 rintro mu_ a w ⟨Z, s8, hS, h, H, rp0, rp1⟩
 obtain ⟨mu_, rfl, n8, en8, hS⟩ := lpX eB8 hS
 refine rg fun K k => ?_
 refine sB h hS rfl (v_lt rfl rfl) fun z10 e10 hS a h => ?_
 refine cz k ?_
 refine sq ?_
 refine cI h hS rfl (fun ec12 hS => ?_) fun ec12 hS => ?_
 refine c_skip ?_
 refine sb ?_
 refine rg fun K k => ?_
 refine cps 2 h rfl fun a h => ?_
 refine cz k ?_
 refine sq ?_
 refine fl h ?_
 refine fcps 2 rfl ?_
 obtain ⟨c15, hS⟩ := ck hS
 obtain ⟨z16, e16, hS⟩ := bv hS
 refine f_op [21, 22] rfl rfl rfl rfl false (.rel (fun w' v' => At w' v' cL z16 0)) at_stab (fun w X => ?_) ?_
 skip
 exact have H := H.ext X; d_idx underlying33 sizeOf40 rfl rfl (rp0.at H.zin) (fun _ => rfl) z16 c15.1 (by rw [e16]; exact gel_some c15)
 refine f_op [23] rfl rfl rfl rfl false (.eq (.agg #[.int .i64 z16.s, .int .i64 z16.c, .int .i64 z16.r])) trivial (fun w X => ?_) ?_
 intro v23 h23
 exact (v_loadAtA [_, _, _] rfl h23 isAgg40 sizeOf40 rfl rfl).doesF
 refine fcps 2 rfl ?_
 obtain ⟨c17, hS⟩ := ck hS
 obtain ⟨z18, e18, hS⟩ := bv hS
 refine f_op [25, 26] rfl rfl rfl rfl false (.rel (fun w' v' => At w' v' cL z18 0)) at_stab (fun w X => ?_) ?_
 skip
 exact have H := H.ext X; d_idx underlying33 sizeOf40 rfl rfl (rp1.at H.zin) (fun _ => rfl) z18 c17.1 (by rw [e18]; exact gel_some c17)
 refine f_op [27] rfl rfl rfl rfl false (.eq (.agg #[.int .i64 z18.s, .int .i64 z18.c, .int .i64 z18.r])) trivial (fun w X => ?_) ?_
 intro v27 h27
 exact (v_loadAtA [_, _, _] rfl h27 isAgg40 sizeOf40 rfl rfl).doesF
 refine fC hS rfl (fun y19 f19 w X => dC call38 (addr_Less_ok f19 :)) fun y19 hS => ?_
 refine fE [0, 1, 5, 17, 18, 29] [_, _, _, _, _, _] H fun a w X H h => ?_
 refine cI h hS rfl (fun ec20 hS => ?_) fun ec20 hS => ?_
 refine rg fun K k => ?_
 refine cps 1 h rfl fun a h => ?_
 refine cN k h [4] [_] fun h => ?_
 cases hS
 refine r1 hr h rfl rfl ⟨rfl, H.out⟩
 refine c_skip ?_
 refine fl h ?_
 refine fcps 2 rfl ?_
 obtain ⟨c21, hS⟩ := ck hS
 obtain ⟨z22, e22, hS⟩ := bv hS
 refine f_op [30, 31] rfl rfl rfl rfl false (.rel (fun w' v' => At w' v' cL z22 0)) at_stab (fun w X => ?_) ?_
 skip
 exact have H := H.ext X; d_idx underlying33 sizeOf40 rfl rfl (rp1.at H.zin) (fun _ => rfl) z22 c21.1 (by rw [e22]; exact gel_some c21)
 refine f_op [32] rfl rfl rfl rfl false (.eq (.agg #[.int .i64 z22.s, .int .i64 z22.c, .int .i64 z22.r])) trivial (fun w X => ?_) ?_
 intro v32 h32
 exact (v_loadAtA [_, _, _] rfl h32 isAgg40 sizeOf40 rfl rfl).doesF
 refine fcps 2 rfl ?_
 obtain ⟨c23, hS⟩ := ck hS
 obtain ⟨z24, e24, hS⟩ := bv hS
 refine f_op [34, 35] rfl rfl rfl rfl false (.rel (fun w' v' => At w' v' cL z24 0)) at_stab (fun w X => ?_) ?_
 skip
 exact have H := H.ext X; d_idx underlying33 sizeOf40 rfl rfl (rp0.at H.zin) (fun _ => rfl) z24 c23.1 (by rw [e24]; exact gel_some c23)
 refine f_op [36] rfl rfl rfl rfl false (.eq (.agg #[.int .i64 z24.s, .int .i64 z24.c, .int .i64 z24.r])) trivial (fun w X => ?_) ?_
 intro v36 h36
 exact (v_loadAtA [_, _, _] rfl h36 isAgg40 sizeOf40 rfl rfl).doesF
 refine fC hS rfl (fun y25 f25 w X => dC call38 (addr_Less_ok f25 :)) fun y25 hS => ?_
 refine fE [0, 1, 17, 18, 38] [_, _, _, _, _] H fun a w X H h => ?_
 refine cI h hS rfl (fun ec26 hS => ?_) fun ec26 hS => ?_
 refine rg fun K k => ?_
 refine cps 1 h rfl fun a h => ?_
 refine cN k h [4] [_] fun h => ?_
 cases hS
 refine r1 hr h rfl rfl ⟨rfl, H.out⟩
 refine c_skip ?_
 refine c_lregion ?_
 refine sI h hS rfl (v_addw rfl rfl) fun z27 e27 hS a h => ?_
 refine cps 1 h rfl fun a h => ?_
 refine c_lnil ?_
 exact exL (ex2 ⟨lpN en8 hS, h.to, H, rp0, rp1⟩)
 exact c_exit (exU1 ⟨hS, h.to, H⟩)

theorem poly_norm_1_ok {x0 : T} {x1 : T} {res : Int} {w0 : World} (hS : poly_norm_1 x0 x1 = some res) {xv0 : Value} (rp0 : RdZ (hz w0) xv0 3 cL x0.v) {xv1 : Value} (rp1 : RdZ (hz w0) xv1 3 cL x1.v) : Calls Tryd.prog 52 [.agg #[.int .i64 x0.n, xv0], .agg #[.int .i64 x1.n, xv1]].toArray w0 (Ret fun v w => v = .int .i64 res ∧ Ext w0 w) := by
 refine en func52 [0, 1] [_, _] fun Q a Zi Z hzs H h hr => ?_
 have rp0 := rp0.sub hzs
 have rp1 := rp1.sub hzs
 clear hzs
 unfold poly_norm_1 at hS
 refine rg fun K k => ?_
 refine z_box h H rfl [_, _] rfl rfl fun a p1 w X H h => ?_
 have H : HZ w0 _ _ [_] _ := H
 refine z_box h H rfl [_, _] rfl rfl fun a p2 w X H h => ?_
 have H : HZ w0 _ _ [_, _] _ := H
 refine cps 1 h rfl fun a h => ?_
 refine cz k ?_
 refine rg fun K k => ?_
 refine s1 h rfl (v_fieldAddr rfl underlying35 rfl sizeOf33 rfl rfl) fun a h => ?_
 refine s1 h rfl (l1 H 0 isAgg33) fun a h => ?_
 refine s1 h rfl (v_fieldAddr rfl underlying35 rfl sizeOf33 rfl rfl) fun a h => ?_
 refine s1 h rfl (l1 H 1 isAgg33) fun a h => ?_
 refine sC h H hS rfl (fun y3 f3 => dC call53 (poly_less_ok f3 (rp0.hz H.zin) (rp1.hz H.zin) :)) fun y3 hS w X H a h => ?_
 refine cps 1 h rfl fun a h => ?_
 refine cN k h [4] [_] fun h => ?_
 cases hS
 refine r1 hr h rfl rfl ⟨rfl, H.out⟩
theorem poly_norm_1_okE {x y : T} {cx cy : List Value} {r : Int} {w : World} (hg : poly_norm_1 x y = some r) {Z : FZ} (hi : Z.inn w) (ha : termEnc.rel Z x cx) (hb : termEnc.rel Z y cy) : Calls Tryd.prog 52 ([Value.agg cx.toArray, Value.agg cy.toArray] ++ (#[] : Array Value).toList).toArray w (Ret fun v w' => v = .int .i64 r ∧ Ext w w') := by
 obtain ⟨va, rfl, h1⟩ := ha
 obtain ⟨vb, rfl, h2⟩ := hb
 exact poly_norm_1_ok hg (h1.hz hi) (h2.hz hi)

theorem poly_Mul_1_ok {x0 : C} {x1 : C} {res : Int} {w0 : World} (hS : poly_Mul_1 x0 x1 = some res) : Calls Tryd.prog 37 [.agg #[.int .i64 x0.s, .int .i64 x0.c, .int .i64 x0.r], .agg #[.int .i64 x1.s, .int .i64 x1.c, .int .i64 x1.r]].toArray w0 (Ret fun v w => v = .int .i64 res ∧ Ext w0 w) := by
 refine en func37 [0, 1] [_, _] fun Q a Zi Z hzs H h hr => ?_
 clear hzs
 unfold poly_Mul_1 at hS
 refine rg fun K k => ?_
 refine z_box h H rfl [_, _, _] rfl rfl fun a p1 w X H h => ?_
 have H : HZ w0 _ _ [_] _ := H
 refine z_box h H rfl [_, _, _] rfl rfl fun a p2 w X H h => ?_
 have H : HZ w0 _ _ [_, _] _ := H
 refine cps 1 h rfl fun a h => ?_
 refine cz k ?_
 refine sb ?_
 refine rg fun K k => ?_
 refine s1 h rfl (lA H 0 isAgg40 sizeOf40 [_, _, _]) fun a h => ?_
 refine s1 h rfl (lA H 1 isAgg40 sizeOf40 [_, _, _]) fun a h => ?_
 refine sC h H hS rfl (fun y4 f4 => dC call38 (addr_Less_ok f4 :)) fun y4 hS w X H a h => ?_
 refine cps 1 h rfl fun a h => ?_
 refine cN k h [2, 3, 5] [_, _, _] fun h => ?_
 refine cI h hS rfl (fun ec5 hS => ?_) fun ec5 hS => ?_
 refine rg fun K k => ?_
 refine cps 1 h rfl fun a h => ?_
 refine cz k ?_
 cases hS
 refine r1 hr h rfl rfl ⟨rfl, H.out⟩
 refine rg fun K k => ?_
 refine s1 h rfl (lA H 1 isAgg40 sizeOf40 [_, _, _]) fun a h => ?_
 refine s1 h rfl (lA H 0 isAgg40 sizeOf40 [_, _, _]) fun a h => ?_
 refine sC h H hS rfl (fun y6 f6 => dC call38 (addr_Less_ok f6 :)) fun y6 hS w X H a h => ?_
 refine cps 1 h rfl fun a h => ?_
 refine cN k h [9] [_] fun h => ?_
 refine cI h hS rfl (fun ec7 hS => ?_) fun ec7 hS => ?_
 refine rg fun K k => ?_
 refine cps 1 h rfl fun a h => ?_
 refine cz k ?_
 cases hS
 refine r1 hr h rfl rfl ⟨rfl, H.out⟩
 refine c_skip ?_
 refine rg fun K k => ?_
 refine cps 1 h rfl fun a h => ?_
 refine cz k ?_
 cases hS
 refine r1 hr h rfl rfl ⟨rfl, H.out⟩
theorem poly_Mul_1_okE {x y : C} {cx cy : List Value} {r : Int} {w : World} (hg : poly_Mul_1 x y = some r) {Z : FZ} (hi : Z.inn w) (ha : cellEnc.rel Z x cx) (hb : cellEnc.rel Z y cy) : Calls Tryd.prog 37 ([Value.agg cx.toArray, Value.agg cy.toArray] ++ (#[] : Array Value).toList).toArray w (Ret fun v w' => v = .int .i64 r ∧ Ext w w') := by
 obtain rfl := ha
 obtain rfl := hb
 exact poly_Mul_1_ok hg

theorem addr_PrintRef_ok {x0 : Rf} {x1 : Int} {res : (List UInt8)} {w0 : World} (hS : addr_PrintRef x0 x1 = some res) (hG : GW w0) : Calls Tryd.prog 57 [.agg #[.int .i64 x0.c.s, .int .i64 x0.c.c, .int .i64 x0.c.r, .bool x0.ac, .bool x0.ar], .int .i64 x1].toArray w0 (Ret fun v w => v = S res ∧ Ext w0 w) := by
 refine en func57 [0, 1] [_, _] fun Q a Zi Z hzs H h hr => ?_
 clear hzs
 unfold addr_PrintRef at hS
 refine rg fun K k => ?_
 refine z_box h H rfl [_, _, _, _, _] rfl rfl fun a p1 w X H h => ?_
 have H : HZ w0 _ _ [_] _ := H
 refine cps 1 h rfl fun a h => ?_
 refine cz k ?_
 refine rg fun K k => ?_
 refine cps 1 h rfl fun a h => ?_
 refine cz k ?_
 obtain ⟨J3, eJ3, hS⟩ := bv hS
 refine sqJ (fun a w => ∃ (Z : FZ) (s3 : (List UInt8)), J3 s3 = some res ∧ Fr 41 [(2, .pointer (some ⟨p1, 0, none⟩)), (5, S s3)] a ∧ HZ w0 Zi Z [.blk p1 (Cel [.int .i64 x0.c.s, .int .i64 x0.c.c, .int .i64 x0.c.r, .bool x0.ac, .bool x0.ar] 61)] w) ?_ ?_
 rintro a w ⟨Z, s3, hS, h, H⟩
 subst eJ3
 obtain ⟨J5, eJ5, hS⟩ := bv hS
 refine sqJ (fun a w => ∃ (Z : FZ) (s5 : (List UInt8)), J5 s5 = some res ∧ Fr 41 [(2, .pointer (some ⟨p1, 0, none⟩)), (5, S s5)] a ∧ HZ w0 Zi Z [.blk p1 (Cel [.int .i64 x0.c.s, .int .i64 x0.c.c, .int .i64 x0.c.r, .bool x0.ac, .bool x0.ar] 61)] w) ?_ ?_
 rintro a w ⟨Z, s5, hS, h, H⟩
 subst eJ5
 refine rg fun K k => ?_
 refine cps 1 h rfl fun a h => ?_
 refine s1 h rfl (v_fieldAddr rfl underlying61 rfl sizeOf40 rfl rfl) fun a h => ?_
 refine s1 h rfl (v_fieldAddr rfl underlying40 rfl sizeOf3 rfl rfl) fun a h => ?_
 refine s1 h rfl (l1 H 0 isAgg3) fun a h => ?_
 refine sI h hS rfl (v_addw rfl rfl) fun z6 e6 hS a h => ?_
 refine sI h hS rfl (v_convInt (by rw [underlying3]; rfl) underlying21 rfl rfl) fun z7 e7 hS a h => ?_
 obtain ⟨c8, hS⟩ := ck hS
 refine sS h hS rfl (v_runeS underlying21 underlying9 rfl c8) fun z9 e9 hS a h => ?_
 obtain ⟨c10, hS⟩ := ck hS
 refine sS h hS rfl (v_sadd rfl rfl c10) fun z11 e11 hS a h => ?_
 refine cps 1 h rfl fun a h => ?_
 refine cN k h [2, 5] [_, _] fun h => ?_
 obtain ⟨J13, eJ13, hS⟩ := bv hS
 refine sqJ (fun a w => ∃ (Z : FZ) (s13 : (List UInt8)), J13 s13 = some res ∧ Fr 41 [(2, .pointer (some ⟨p1, 0, none⟩)), (5, S s13)] a ∧ HZ w0 Zi Z [.blk p1 (Cel [.int .i64 x0.c.s, .int .i64 x0.c.c, .int .i64 x0.c.r, .bool x0.ac, .bool x0.ar] 61)] w) ?_ ?_
 rintro a w ⟨Z, s13, hS, h, H⟩
 subst eJ13
 refine rg fun K k => ?_
 refine cps 1 h rfl fun a h => ?_
 refine s1 h rfl (v_fieldAddr rfl underlying61 rfl sizeOf40 rfl rfl) fun a h => ?_
 refine s1 h rfl (v_fieldAddr rfl underlying40 rfl sizeOf3 rfl rfl) fun a h => ?_
 refine s1 h rfl (l1 H 0 isAgg3) fun a h => ?_
 refine sI h hS rfl (v_addw rfl rfl) fun z14 e14 hS a h => ?_
 obtain ⟨c16, hS⟩ := ck hS
 obtain ⟨z17, e17, hS⟩ := bv hS
 refine st2v (T := Ext) (V := S z17) h rfl rfl rfl ((by rw [e17]; exact dC call81 (lib_itoa c16 (hG.ext H.out)))) fun w X a h => ?_
 have H := H.ext X
 obtain ⟨c18, hS⟩ := ck hS
 refine sS h hS rfl (v_sadd rfl rfl c18) fun z19 e19 hS a h => ?_
 refine cps 1 h rfl fun a h => ?_
 refine cN k h [4] [_] fun h => ?_
 cases hS
 refine r1 hr h rfl rfl ⟨rfl, H.out⟩
 refine rg fun K k => ?_
 refine s1 h rfl (v_fieldAddr rfl underlying61 rfl sizeOf4 rfl rfl) fun a h => ?_
 refine s1 h rfl (l1 H 0 isAgg4) fun a h => ?_
 refine cz k ?_
 refine cI h hS rfl (fun ec20 hS => ?_) fun ec20 hS => ?_
 refine c_lregion ?_
 refine cps 1 h rfl fun a h => ?_
 obtain ⟨c21, hS⟩ := ck hS
 refine sS h hS rfl (v_sadd rfl rfl c21) fun z22 e22 hS a h => ?_
 refine cps 1 h rfl fun a h => ?_
 refine c_lnil ?_
 exact ex2 ⟨hS, h.to, H⟩
 exact c_skip (ex2 ⟨hS, h.to, H⟩)
 refine rg fun K k => ?_
 refine s1 h rfl (v_fieldAddr rfl underlying61 rfl sizeOf4 rfl rfl) fun a h => ?_
 refine s1 h rfl (l1 H 0 isAgg4) fun a h => ?_
 refine cz k ?_
 refine cI h hS rfl (fun ec23 hS => ?_) fun ec23 hS => ?_
 refine c_lregion ?_
 refine cps 1 h rfl fun a h => ?_
 obtain ⟨c24, hS⟩ := ck hS
 refine sS h hS rfl (v_sadd rfl rfl c24) fun z25 e25 hS a h => ?_
 refine cps 1 h rfl fun a h => ?_
 refine c_lnil ?_
 exact ex2 ⟨hS, h.to, H⟩
 exact c_skip (ex2 ⟨hS, h.to, H⟩)
 refine rg fun K k => ?_
 refine s1 h rfl (v_fieldAddr rfl underlying61 rfl sizeOf40 rfl rfl) fun a h => ?_
 refine s1 h rfl (v_fieldAddr rfl underlying40 rfl sizeOf3 rfl rfl) fun a h => ?_
 refine s1 h rfl (l1 H 0 isAgg3) fun a h => ?_
 refine cps 1 h rfl fun a h => ?_
 refine sB h hS rfl (v_ne rfl rfl) fun z26 e26 hS a h => ?_
 refine cN k h [2, 5, 10] [_, _, _] fun h => ?_
 refine cI h hS rfl (fun ec27 hS => ?_) fun ec27 hS => ?_
 refine c_lregion ?_
 refine s1 h rfl (v_fieldAddr rfl underlying61 rfl sizeOf40 rfl rfl) fun a h => ?_
 refine s1 h rfl (v_fieldAddr rfl underlying40 rfl sizeOf3 rfl rfl) fun a h => ?_
 refine s1 h rfl (l1 H 0 isAgg3) fun a h => ?_
 refine sI h hS rfl (v_addw rfl rfl) fun z28 e28 hS a h => ?_
 obtain ⟨c30, hS⟩ := ck hS
 obtain ⟨z31, e31, hS⟩ := bv hS
 refine st2v (T := Ext) (V := S z31) h rfl rfl rfl ((by rw [e31]; exact dC call81 (lib_itoa c30 (hG.ext H.out)))) fun w X a h => ?_
 have H := H.ext X
 obtain ⟨c32, hS⟩ := ck hS
 refine sS h hS rfl (v_sadd rfl rfl c32) fun z33 e33 hS a h => ?_
 obtain ⟨c34, hS⟩ := ck hS
 refine sS h hS rfl (v_sadd rfl rfl c34) fun z35 e35 hS a h => ?_
 refine cps 1 h rfl fun a h => ?_
 refine c_lnil ?_
 exact ex2 ⟨hS, h.to, H⟩
 exact c_skip (ex2 ⟨hS, h.to, H⟩)

theorem addr_Print_ok {x0 : C} {res : (List UInt8)} {w0 : World} (hS : addr_Print x0 = some res) (hG : GW w0) : Calls Tryd.prog 40 [.agg #[.int .i64 x0.s, .int .i64 x0.c, .int .i64 x0.r]].toArray w0 (Ret fun v w => v = S res ∧ Ext w0 w) := by
 refine en func40 [0] [_] fun Q a Zi Z hzs H h hr => ?_
 clear hzs
 unfold addr_Print at hS
 refine rg fun K k => ?_
 refine z_box h H rfl [_, _, _] rfl rfl fun a p1 w X H h => ?_
 have H : HZ w0 _ _ [_] _ := H
 refine cps 1 h rfl fun a h => ?_
 refine cz k ?_
 refine rg fun K k => ?_
 refine s1 h rfl (lA H 0 isAgg40 sizeOf40 [_, _, _]) fun a h => ?_
 refine s1 h rfl (v_build bld61 [_] [_, _, _, _, _] rfl rfl) fun a h => ?_
 refine sC h H hS rfl (fun y2 f2 => dC call57 (addr_PrintRef_ok f2 (hG.ext H.out) :)) fun y2 hS w X H a h => ?_
 refine cps 1 h rfl fun a h => ?_
 refine cN k h [2] [_] fun h => ?_
 cases hS
 refine r1 hr h rfl rfl ⟨rfl, H.out⟩
end Go.Proofs.YtlpfcclecmalhaaDoor
