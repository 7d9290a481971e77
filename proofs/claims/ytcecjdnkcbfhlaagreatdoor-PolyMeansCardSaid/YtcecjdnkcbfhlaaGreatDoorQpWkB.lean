/- Joined texts. -/
import Derived.Test.YtcecjdnkcbfhlaaGreatDoorQS0
import Derived.Test.YtcecjdnkcbfhlaaGreatDoorQpWkA
set_option linter.unusedSimpArgs false
set_option linter.unusedVariables false
set_option linter.unusedSectionVars false
namespace Go.Proofs.YtcecjdnkcbfhlaaGreatDoor
open Go.Stp Go.RowKit Go.ValP Go.Sp _root_.Go.Proofs.Tryz
set_option maxRecDepth 100000
theorem bits_Div64_ok {x0 : Int} {x1 : Int} {x2 : Int} {res : Int × Int} {w0 : World} (hS : bits_Div64 x0 x1 x2 = some res) : Calls Tryz.prog 114 [.int .u64 x0, .int .u64 x1, .int .u64 x2].toArray w0 (Ret fun v w => v = .tuple #[.int .u64 res.1, .int .u64 res.2] ∧ Ext w0 w) := by
 refine en func114 [0, 1, 2] [_, _, _] fun Q a Zi Z hzs H h hr => ?_
 clear hzs
 unfold bits_Div64 at hS
 refine rg fun K k => ?_
 refine cps 2 h rfl fun a h => ?_
 refine cz k ?_
 obtain ⟨J2, eJ2, hS⟩ := bv hS
 refine sqJ (fun a w => ∃ (Z : FZ) (s2 : Unit), J2 s2 = some res ∧ Fr 135 [(0, .int .u64 x0), (1, .int .u64 x1), (2, .int .u64 x2)] a ∧ HZ w0 Zi Z [] w) ?_ ?_
 rintro a w ⟨Z, s2, hS, h, H⟩
 subst eJ2
 obtain ⟨J4, eJ4, hS⟩ := bv hS
 refine sqJ (fun a w => ∃ (Z : FZ) (s4 : Unit), J4 s4 = some res ∧ Fr 135 [(0, .int .u64 x0), (1, .int .u64 x1), (2, .int .u64 x2)] a ∧ HZ w0 Zi Z [] w) ?_ ?_
 rintro a w ⟨Z, s4, hS, h, H⟩
 subst eJ4
 refine sq ?_
 refine rg fun K k => ?_
 refine cps 1 h rfl fun a h => ?_
 refine sB h hS rfl (v_eq rfl rfl) fun z6 e6 hS a h => ?_
 refine cz k ?_
 refine cI h hS rfl (fun ec7 hS => ?_) fun ec7 hS => ?_
 refine fl h ?_
 refine fcps 2 rfl ?_
 obtain ⟨c8, hS⟩ := ck hS
 refine fI hS rfl (fun w X => v_quow rfl rfl c8) fun z9 e9 hS => ?_
 refine fcps 2 rfl ?_
 obtain ⟨c10, hS⟩ := ck hS
 refine fI hS rfl (fun w X => v_rem rfl rfl c10) fun z11 e11 hS => ?_
 refine fcps 2 rfl ?_
 refine fE [6, 7] [_, _] H fun a w X H h => ?_
 cases hS
 refine r2 hr h rfl rfl rfl ⟨rfl, H.out⟩
 refine c_skip ?_
 refine rg fun K k => ?_
 refine cps 1 h rfl fun a h => ?_
 obtain ⟨c13, hS⟩ := ck hS
 obtain ⟨z14, e14, hS⟩ := bv hS
 refine st2v (T := Ext) (V := .int .i64 z14) h rfl rfl rfl ((by rw [e14]; exact dC call157 (lib_lz64 c13))) fun w X a h => ?_
 have H := H.ext X
 refine sI h hS rfl (v_convInt (by rw [underlying3]; rfl) underlying68 rfl rfl) fun z15 e15 hS a h => ?_
 refine cps 1 h rfl fun a h => ?_
 refine cN k h [0, 1, 2, 8] [_, _, _, _] fun h => ?_
 refine rg fun K k => ?_
 refine cps 2 h rfl fun a h => ?_
 obtain ⟨c16, hS⟩ := ck hS
 refine sI h hS rfl (v_shl rfl rfl c16) fun z17 e17 hS a h => ?_
 refine cps 1 h rfl fun a h => ?_
 refine cz k ?_
 refine rg fun K k => ?_
 refine cps 1 h rfl fun a h => ?_
 obtain ⟨c18, hS⟩ := ck hS
 refine sI h hS rfl (v_shr rfl rfl c18) fun z19 e19 hS a h => ?_
 refine cps 1 h rfl fun a h => ?_
 refine cN k h [0, 1, 2, 8, 9] [_, _, _, _, _] fun h => ?_
 refine rg fun K k => ?_
 refine cps 1 h rfl fun a h => ?_
 refine sI h hS rfl (v_bits_and rfl rfl) fun z20 e20 hS a h => ?_
 refine cps 1 h rfl fun a h => ?_
 refine cz k ?_
 refine rg fun K k => ?_
 refine cps 2 h rfl fun a h => ?_
 obtain ⟨c21, hS⟩ := ck hS
 refine sI h hS rfl (v_shl rfl rfl c21) fun z22 e22 hS a h => ?_
 refine cps 2 h rfl fun a h => ?_
 refine sI h hS rfl (v_subw rfl rfl) fun z23 e23 hS a h => ?_
 obtain ⟨c24, hS⟩ := ck hS
 refine sI h hS rfl (v_shr rfl rfl c24) fun z25 e25 hS a h => ?_
 refine sI h hS rfl (v_bits_or rfl rfl) fun z26 e26 hS a h => ?_
 refine cps 1 h rfl fun a h => ?_
 refine cN k h [1, 2, 8, 9, 10, 11] [_, _, _, _, _, _] fun h => ?_
 refine rg fun K k => ?_
 refine cps 2 h rfl fun a h => ?_
 obtain ⟨c27, hS⟩ := ck hS
 refine sI h hS rfl (v_shl rfl rfl c27) fun z28 e28 hS a h => ?_
 refine cps 1 h rfl fun a h => ?_
 refine cN k h [2, 8, 9, 10, 11, 12] [_, _, _, _, _, _] fun h => ?_
 refine rg fun K k => ?_
 refine cps 1 h rfl fun a h => ?_
 obtain ⟨c29, hS⟩ := ck hS
 refine sI h hS rfl (v_shr rfl rfl c29) fun z30 e30 hS a h => ?_
 refine cps 1 h rfl fun a h => ?_
 refine cz k ?_
 refine rg fun K k => ?_
 refine cps 1 h rfl fun a h => ?_
 refine sI h hS rfl (v_bits_and rfl rfl) fun z31 e31 hS a h => ?_
 refine cps 1 h rfl fun a h => ?_
 refine cN k h [2, 8, 9, 10, 11, 13, 14] [_, _, _, _, _, _, _] fun h => ?_
 refine rg fun K k => ?_
 refine cps 2 h rfl fun a h => ?_
 obtain ⟨c32, hS⟩ := ck hS
 refine sI h hS rfl (v_quow rfl rfl c32) fun z33 e33 hS a h => ?_
 refine cps 1 h rfl fun a h => ?_
 refine cz k ?_
 refine rg fun K k => ?_
 refine cps 3 h rfl fun a h => ?_
 refine sI h hS rfl (v_mulw rfl rfl) fun z34 e34 hS a h => ?_
 refine sI h hS rfl (v_subw rfl rfl) fun z35 e35 hS a h => ?_
 refine cps 1 h rfl fun a h => ?_
 refine cN k h [2, 8, 9, 10, 11, 13, 14, 15, 16] [_, _, _, _, _, _, _, _, _] fun h => ?_
 obtain ⟨J37, eJ37, hS⟩ := bv hS
 refine sbJ (fun a w => ∃ (Z : FZ) (s37 : Int), J37 s37 = some res ∧ Fr 135 [(2, .int .u64 z17), (8, .int .u64 z15), (9, .int .u64 z19), (10, .int .u64 z20), (11, .int .u64 z26), (13, .int .u64 z30), (14, .int .u64 z31), (15, .int .u64 s37)] a ∧ HZ w0 Zi Z [] w) ?_ ?_
 rintro a w ⟨Z, s37, hS, h, H⟩
 subst eJ37
 refine rg fun K k => ?_
 refine cps 1 h rfl fun a h => ?_
 refine sI h hS rfl (v_mulw rfl rfl) fun z38 e38 hS a h => ?_
 refine cps 1 h rfl fun a h => ?_
 refine sI h hS rfl (v_addw rfl rfl) fun z39 e39 hS a h => ?_
 refine cps 2 h rfl fun a h => ?_
 refine sI h hS rfl (v_mulw rfl rfl) fun z40 e40 hS a h => ?_
 refine sI h hS rfl (v_subw rfl rfl) fun z41 e41 hS a h => ?_
 refine cps 1 h rfl fun a h => ?_
 refine cN k h [2, 8, 9, 10, 14, 15, 17] [_, _, _, _, _, _, _] fun h => ?_
 refine rg fun K k => ?_
 refine cps 2 h rfl fun a h => ?_
 obtain ⟨c42, hS⟩ := ck hS
 refine sI h hS rfl (v_quow rfl rfl c42) fun z43 e43 hS a h => ?_
 refine cps 1 h rfl fun a h => ?_
 refine cz k ?_
 refine rg fun K k => ?_
 refine cps 3 h rfl fun a h => ?_
 refine sI h hS rfl (v_mulw rfl rfl) fun z44 e44 hS a h => ?_
 refine sI h hS rfl (v_subw rfl rfl) fun z45 e45 hS a h => ?_
 refine cps 1 h rfl fun a h => ?_
 refine cN k h [2, 8, 9, 10, 14, 15, 16, 17, 18] [_, _, _, _, _, _, _, _, _] fun h => ?_
 obtain ⟨J47, eJ47, hS⟩ := bv hS
 refine sbJ (fun a w => ∃ (Z : FZ) (s47 : Int), J47 s47 = some res ∧ Fr 135 [(2, .int .u64 z17), (8, .int .u64 z15), (14, .int .u64 z31), (15, .int .u64 s37), (17, .int .u64 z41), (18, .int .u64 s47)] a ∧ HZ w0 Zi Z [] w) ?_ ?_
 rintro a w ⟨Z, s47, hS, h, H⟩
 subst eJ47
 refine rg fun K k => ?_
 refine cps 1 h rfl fun a h => ?_
 refine sI h hS rfl (v_mulw rfl rfl) fun z48 e48 hS a h => ?_
 refine cps 1 h rfl fun a h => ?_
 refine sI h hS rfl (v_addw rfl rfl) fun z49 e49 hS a h => ?_
 refine cps 1 h rfl fun a h => ?_
 refine sI h hS rfl (v_mulw rfl rfl) fun z50 e50 hS a h => ?_
 refine cps 1 h rfl fun a h => ?_
 refine sI h hS rfl (v_addw rfl rfl) fun z51 e51 hS a h => ?_
 refine cps 2 h rfl fun a h => ?_
 refine sI h hS rfl (v_mulw rfl rfl) fun z52 e52 hS a h => ?_
 refine sI h hS rfl (v_subw rfl rfl) fun z53 e53 hS a h => ?_
 refine cps 1 h rfl fun a h => ?_
 obtain ⟨c54, hS⟩ := ck hS
 refine sI h hS rfl (v_shr rfl rfl c54) fun z55 e55 hS a h => ?_
 refine cps 2 h rfl fun a h => ?_
 refine cN k h [6, 7] [_, _] fun h => ?_
 cases hS
 refine r2 hr h rfl rfl rfl ⟨rfl, H.out⟩
 obtain ⟨B56, eB56, hS⟩ := bv hS
 refine lpJ (fun mu_ a w => ∃ (Z : FZ) (s56 : Int × Int), loopF B56 mu_ s56 = some res ∧ Fr 135 [(2, .int .u64 z17), (8, .int .u64 z15), (9, .int .u64 z19), (10, .int .u64 z20), (14, .int .u64 z31), (15, .int .u64 s37), (16, .int .u64 s56.1), (17, .int .u64 z41), (18, .int .u64 s56.2)] a ∧ HZ w0 Zi Z [] w) KK ⟨_, _, hS, h.to, H⟩ ?_
 rintro mu_ a w ⟨Z, s56, hS, h, H⟩
 obtain ⟨mu_, rfl, n56, en56, hS⟩ := lpX eB56 hS
 refine sq ?_
 refine rg fun K k => ?_
 refine cps 1 h rfl fun a h => ?_
 refine sB h hS rfl (v_ge rfl rfl) fun z59 e59 hS a h => ?_
 refine cps 1 h rfl fun a h => ?_
 refine st_g h rfl rfl (gF rfl) rfl rfl (fun e0 => v_move rfl) fun a h => ?_
 refine st_g h rfl rfl (gF rfl) rfl rfl (fun e0 => v_move rfl) fun a h => ?_
 obtain ⟨z60, e60, hS⟩ := bv hS
 refine st_g h rfl rfl (gF rfl) rfl rfl (fun e0 => vI e60 (v_mulw (eg e0 rfl) (eg e0 rfl))) fun a h => ?_
 refine st_g h rfl rfl (gF rfl) rfl rfl (fun e0 => v_move rfl) fun a h => ?_
 obtain ⟨z61, e61, hS⟩ := bv hS
 refine st_g h rfl rfl (gF rfl) rfl rfl (fun e0 => vI e61 (v_mulw rfl (eg e0 rfl))) fun a h => ?_
 refine st_g h rfl rfl (gF rfl) rfl rfl (fun e0 => v_move rfl) fun a h => ?_
 obtain ⟨z62, e62, hS⟩ := bv hS
 refine st_g h rfl rfl (gF rfl) rfl rfl (fun e0 => vI e62 (v_addw (eg e0 rfl) (eg e0 rfl))) fun a h => ?_
 obtain ⟨z63, e63, hS⟩ := bv hS
 refine st_g h rfl rfl (gF rfl) rfl rfl (fun e0 => vB e63 (v_gt (eg e0 rfl) (eg e0 rfl))) fun a h => ?_
 refine sB h hS rfl (v_or rfl rfl) fun z64 e64 hS a h => ?_
 refine cN k h [2, 8, 9, 10, 14, 15, 16, 17, 18, 113] [_, _, _, _, _, _, _, _, _, _] fun h => ?_
 refine cI h hS rfl (fun ec65 hS => ?_) fun ec65 hS => ?_
 refine c_skip ?_
 refine lb ?_
 refine rg fun K k => ?_
 refine cps 1 h rfl fun a h => ?_
 refine sI h hS rfl (v_subw rfl rfl) fun z67 e67 hS a h => ?_
 refine cps 1 h rfl fun a h => ?_
 refine cz k ?_
 refine rg fun K k => ?_
 refine cps 2 h rfl fun a h => ?_
 refine sI h hS rfl (v_addw rfl rfl) fun z68 e68 hS a h => ?_
 refine cps 1 h rfl fun a h => ?_
 refine cN k h [2, 8, 9, 10, 14, 15, 16, 17, 18] [_, _, _, _, _, _, _, _, _] fun h => ?_
 refine rg fun K k => ?_
 refine cps 1 h rfl fun a h => ?_
 refine sB h hS rfl (v_ge rfl rfl) fun z69 e69 hS a h => ?_
 refine cz k ?_
 refine cI h hS rfl (fun ec70 hS => ?_) fun ec70 hS => ?_
 exact c_exit (ex2 ⟨hS, h.to, H⟩)
 exact c_skip (exL (ex2 ⟨lpN en56 hS, h.to, H⟩))
 exact c_exit (ex2 ⟨hS, h.to, H⟩)
 obtain ⟨B71, eB71, hS⟩ := bv hS
 refine lpJ (fun mu_ a w => ∃ (Z : FZ) (s71 : Int × Int), loopF B71 mu_ s71 = some res ∧ Fr 135 [(2, .int .u64 z17), (8, .int .u64 z15), (9, .int .u64 z19), (10, .int .u64 z20), (11, .int .u64 z26), (13, .int .u64 z30), (14, .int .u64 z31), (15, .int .u64 s71.1), (16, .int .u64 s71.2)] a ∧ HZ w0 Zi Z [] w) KK ⟨_, _, hS, h.to, H⟩ ?_
 rintro mu_ a w ⟨Z, s71, hS, h, H⟩
 obtain ⟨mu_, rfl, n71, en71, hS⟩ := lpX eB71 hS
 refine sq ?_
 refine rg fun K k => ?_
 refine cps 1 h rfl fun a h => ?_
 refine sB h hS rfl (v_ge rfl rfl) fun z74 e74 hS a h => ?_
 refine cps 1 h rfl fun a h => ?_
 refine st_g h rfl rfl (gF rfl) rfl rfl (fun e0 => v_move rfl) fun a h => ?_
 refine st_g h rfl rfl (gF rfl) rfl rfl (fun e0 => v_move rfl) fun a h => ?_
 obtain ⟨z75, e75, hS⟩ := bv hS
 refine st_g h rfl rfl (gF rfl) rfl rfl (fun e0 => vI e75 (v_mulw (eg e0 rfl) (eg e0 rfl))) fun a h => ?_
 refine st_g h rfl rfl (gF rfl) rfl rfl (fun e0 => v_move rfl) fun a h => ?_
 obtain ⟨z76, e76, hS⟩ := bv hS
 refine st_g h rfl rfl (gF rfl) rfl rfl (fun e0 => vI e76 (v_mulw rfl (eg e0 rfl))) fun a h => ?_
 refine st_g h rfl rfl (gF rfl) rfl rfl (fun e0 => v_move rfl) fun a h => ?_
 obtain ⟨z77, e77, hS⟩ := bv hS
 refine st_g h rfl rfl (gF rfl) rfl rfl (fun e0 => vI e77 (v_addw (eg e0 rfl) (eg e0 rfl))) fun a h => ?_
 obtain ⟨z78, e78, hS⟩ := bv hS
 refine st_g h rfl rfl (gF rfl) rfl rfl (fun e0 => vB e78 (v_gt (eg e0 rfl) (eg e0 rfl))) fun a h => ?_
 refine sB h hS rfl (v_or rfl rfl) fun z79 e79 hS a h => ?_
 refine cN k h [2, 8, 9, 10, 11, 13, 14, 15, 16, 78] [_, _, _, _, _, _, _, _, _, _] fun h => ?_
 refine cI h hS rfl (fun ec80 hS => ?_) fun ec80 hS => ?_
 refine c_skip ?_
 refine lb ?_
 refine rg fun K k => ?_
 refine cps 1 h rfl fun a h => ?_
 refine sI h hS rfl (v_subw rfl rfl) fun z82 e82 hS a h => ?_
 refine cps 1 h rfl fun a h => ?_
 refine cz k ?_
 refine rg fun K k => ?_
 refine cps 2 h rfl fun a h => ?_
 refine sI h hS rfl (v_addw rfl rfl) fun z83 e83 hS a h => ?_
 refine cps 1 h rfl fun a h => ?_
 refine cN k h [2, 8, 9, 10, 11, 13, 14, 15, 16] [_, _, _, _, _, _, _, _, _] fun h => ?_
 refine rg fun K k => ?_
 refine cps 1 h rfl fun a h => ?_
 refine sB h hS rfl (v_ge rfl rfl) fun z84 e84 hS a h => ?_
 refine cz k ?_
 refine cI h hS rfl (fun ec85 hS => ?_) fun ec85 hS => ?_
 exact c_exit (ex2 ⟨hS, h.to, H⟩)
 exact c_skip (exL (ex2 ⟨lpN en71 hS, h.to, H⟩))
 exact c_exit (ex2 ⟨hS, h.to, H⟩)
 refine rg fun K k => ?_
 refine cps 2 h rfl fun a h => ?_
 refine sB h hS rfl (v_le rfl rfl) fun z86 e86 hS a h => ?_
 refine cz k ?_
 refine cI h hS rfl (fun ec87 hS => ?_) fun ec87 hS => ?_
 exact nomatch hS
 exact c_skip (exU1 ⟨hS, h.to, H⟩)
 refine rg fun K k => ?_
 refine cps 1 h rfl fun a h => ?_
 refine sB h hS rfl (v_eq rfl rfl) fun z88 e88 hS a h => ?_
 refine cz k ?_
 refine cI h hS rfl (fun ec89 hS => ?_) fun ec89 hS => ?_
 exact nomatch hS
 exact c_skip (exU1 ⟨hS, h.to, H⟩)
theorem num_scaled_ok {x0 : Int} {x1 : Int} {x2 : Int} {res : Int × Bool} {w0 : World} (hS : num_scaled x0 x1 x2 = some res) : Calls Tryz.prog 81 [.int .u64 x0, .int .u64 x1, .int .u64 x2].toArray w0 (Ret fun v w => v = .tuple #[.int .u64 res.1, .bool res.2] ∧ Ext w0 w) := by
 refine en func81 [0, 1, 2] [_, _, _] fun Q a Zi Z hzs H h hr => ?_
 clear hzs
 unfold num_scaled at hS
 refine rg fun K k => ?_
 refine cps 2 h rfl fun a h => ?_
 refine cz k ?_
 refine rg fun K k => ?_
 refine cps 2 h rfl fun a h => ?_
 obtain ⟨c2, hS⟩ := ck hS
 obtain ⟨z3, e3, hS⟩ := bv hS
 refine st2v (T := Ext) (V := .tuple #[.int .u64 z3.1, .int .u64 z3.2]) h rfl rfl rfl ((by rw [e3]; exact dC call113 (lib_mul64 c2))) fun w X a h => ?_
 have H := H.ext X
 refine cps 5 h rfl fun a h => ?_
 refine cN k h [2, 8, 9] [_, _, _] fun h => ?_
 refine sq ?_
 refine rg fun K k => ?_
 refine cps 2 h rfl fun a h => ?_
 refine sB h hS rfl (v_ge rfl rfl) fun z5 e5 hS a h => ?_
 refine cz k ?_
 refine cI h hS rfl (fun ec6 hS => ?_) fun ec6 hS => ?_
 refine rg fun K k => ?_
 refine cps 2 h rfl fun a h => ?_
 refine cN k h [6, 7] [_, _] fun h => ?_
 cases hS
 refine r2 hr h rfl rfl rfl ⟨rfl, H.out⟩
 refine c_skip ?_
 refine rg fun K k => ?_
 refine cps 3 h rfl fun a h => ?_
 refine sC h H hS rfl (fun y7 f7 => dC call114 (bits_Div64_ok f7 :)) fun y7 hS w X H a h => ?_
 refine cps 5 h rfl fun a h => ?_
 refine cN k h [2, 10, 11] [_, _, _] fun h => ?_
 obtain ⟨J9, eJ9, hS⟩ := bv hS
 refine sqJ (fun a w => ∃ (Z : FZ) (s9 : Int), J9 s9 = some res ∧ Fr 45 [(2, .int .u64 x2), (10, .int .u64 s9), (11, .int .u64 y7.2)] a ∧ HZ w0 Zi Z [] w) ?_ ?_
 rintro a w ⟨Z, s9, hS, h, H⟩
 subst eJ9
 refine rg fun K k => ?_
 refine cps 2 h rfl fun a h => ?_
 refine sB h hS rfl (v_ne rfl rfl) fun z10 e10 hS a h => ?_
 refine cps 1 h rfl fun a h => ?_
 refine st_g h rfl rfl (gF rfl) rfl rfl (fun e0 => v_move rfl) fun a h => ?_
 refine st_g h rfl rfl (gF rfl) rfl rfl (fun e0 => v_move rfl) fun a h => ?_
 refine st_g h rfl rfl (gF rfl) rfl rfl (fun e0 => v_move rfl) fun a h => ?_
 obtain ⟨z11, e11, hS⟩ := bv hS
 refine st_g h rfl rfl (gF rfl) rfl rfl (fun e0 => vI e11 (v_subw (eg e0 rfl) (eg e0 rfl))) fun a h => ?_
 obtain ⟨z12, e12, hS⟩ := bv hS
 refine st_g h rfl rfl (gF rfl) rfl rfl (fun e0 => vB e12 (v_lt (eg e0 rfl) (eg e0 rfl))) fun a h => ?_
 refine sB h hS rfl (v_or rfl rfl) fun z13 e13 hS a h => ?_
 refine cps 2 h rfl fun a h => ?_
 refine cN k h [6, 7] [_, _] fun h => ?_
 cases hS
 refine r2 hr h rfl rfl rfl ⟨rfl, H.out⟩
 refine rg fun K k => ?_
 refine cps 3 h rfl fun a h => ?_
 refine sI h hS rfl (v_subw rfl rfl) fun z14 e14 hS a h => ?_
 refine sB h hS rfl (v_ge rfl rfl) fun z15 e15 hS a h => ?_
 refine cN k h [2, 10, 11, 32] [_, _, _, _] fun h => ?_
 refine cI h hS rfl (fun ec16 hS => ?_) fun ec16 hS => ?_
 refine c_lregion ?_
 refine cps 1 h rfl fun a h => ?_
 refine sI h hS rfl (v_addw rfl rfl) fun z17 e17 hS a h => ?_
 refine cps 1 h rfl fun a h => ?_
 refine c_lnil ?_
 exact ex2 ⟨hS, h.to, H⟩
 exact c_skip (ex2 ⟨hS, h.to, H⟩)
theorem num_Mul_ok {x0 : Int} {x1 : Int} {res : Int × Bool} {w0 : World} (hS : num_Mul x0 x1 = some res) : Calls Tryz.prog 56 [.int .i64 x0, .int .i64 x1].toArray w0 (Ret fun v w => v = .tuple #[.int .i64 res.1, .bool res.2] ∧ Ext w0 w) := by
 refine en func56 [0, 1] [_, _] fun Q a Zi Z hzs H h hr => ?_
 clear hzs
 unfold num_Mul at hS
 refine rg fun K k => ?_
 refine cps 2 h rfl fun a h => ?_
 refine cz k ?_
 refine rg fun K k => ?_
 refine cps 1 h rfl fun a h => ?_
 refine sC h H hS rfl (fun y1 f1 => dC call82 (num_abs_ok f1 :)) fun y1 hS w X H a h => ?_
 refine cps 1 h rfl fun a h => ?_
 refine sC h H hS rfl (fun y2 f2 => dC call82 (num_abs_ok f2 :)) fun y2 hS w X H a h => ?_
 refine sC h H hS rfl (fun y3 f3 => dC call81 (num_scaled_ok f3 :)) fun y3 hS w X H a h => ?_
 refine cps 5 h rfl fun a h => ?_
 refine cN k h [0, 1, 6, 7] [_, _, _, _] fun h => ?_
 refine sq ?_
 refine rg fun K k => ?_
 refine cps 1 h rfl fun a h => ?_
 refine sB h hS rfl (v_not rfl) fun z5 e5 hS a h => ?_
 refine cz k ?_
 refine cI h hS rfl (fun ec6 hS => ?_) fun ec6 hS => ?_
 refine rg fun K k => ?_
 refine cps 2 h rfl fun a h => ?_
 refine cN k h [4, 5] [_, _] fun h => ?_
 cases hS
 refine r2 hr h rfl rfl rfl ⟨rfl, H.out⟩
 refine c_skip ?_
 refine rg fun K k => ?_
 refine cps 2 h rfl fun a h => ?_
 refine sB h hS rfl (v_lt rfl rfl) fun z7 e7 hS a h => ?_
 refine cps 1 h rfl fun a h => ?_
 refine sB h hS rfl (v_lt rfl rfl) fun z8 e8 hS a h => ?_
 refine sB h hS rfl (v_bne underlying4 rfl rfl) fun z9 e9 hS a h => ?_
 refine sC h H hS rfl (fun y10 f10 => dC call83 (num_signed_ok f10 :)) fun y10 hS w X H a h => ?_
 refine cps 4 h rfl fun a h => ?_
 refine cN k h [4, 5] [_, _] fun h => ?_
 cases hS
 refine r2 hr h rfl rfl rfl ⟨rfl, H.out⟩
theorem lists_Product_ok {x0 : List (V)} {res : V} {w0 : World} (hS : lists_Product x0 = some res) {xv0 : Value} (rp0 : RdZ (hz w0) xv0 3 vL x0) : Calls Tryz.prog 215 [xv0].toArray w0 (Ret fun v w => v = .agg #[.int .i64 res.k, .int .i64 res.n, S res.s] ∧ Ext w0 w) := by
 refine en func215 [0] [_] fun Q a Zi Z hzs H h hr => ?_
 have rp0 := rp0.sub hzs
 clear hzs
 unfold lists_Product at hS
 refine rg fun K k => ?_
 refine zA h H zeroValue26 [_, _, _] (fun x => [x]) fun a p1 w X H h => ?_
 refine cz k ?_
 refine rg fun K k => ?_
 refine cps 1 h rfl fun a h => ?_
 obtain ⟨y2, f2, hS⟩ := bo hS
 refine z_callR (data := y2) h H rfl rfl rfl (dC call241 (lists_numbers_ok (x0 := x0) f2 (rp0.hz H.zin))) fun v9_3 Z w hsub X H r9_3 a h => ?_
 have rp0 := rp0.sub hsub
 refine cps 1 h rfl fun a h => ?_
 refine cz k ?_
 refine sq ?_
 refine rg fun K k => ?_
 refine cps 1 h rfl fun a h => ?_
 refine s1 h rfl (v_len underlying231 rfl (r9_3.at H.zin)) fun a h => ?_
 refine sB h hS rfl (v_eq rfl rfl) fun z5 e5 hS a h => ?_
 refine cN k h [2, 3, 12] [_, _, _] fun h => ?_
 refine cI h hS rfl (fun ec6 hS => ?_) fun ec6 hS => ?_
 refine rg fun K k => ?_
 refine sC h H hS rfl (fun y7 f7 => dC call14 (value_Num_ok f7 :)) fun y7 hS w X H a h => ?_
 refine zS h H 0 sizeOf26 [_, _, _] [_, _, _] [_] fun w H => ?_
 refine cz k ?_
 cases hS
 refine r1 hr h rfl (rvA H 0 isAgg26 sizeOf26 [_, _, _]) ⟨rfl, H.out⟩
 refine c_skip ?_
 refine rg fun K k => ?_
 refine cps 1 h rfl fun a h => ?_
 obtain ⟨c8, hS⟩ := ck hS
 obtain ⟨z9, e9, hS⟩ := bv hS
 refine st_idx h underlying231 sizeOf2 rfl rfl (r9_3.at H.zin) (fun _ => rfl) z9 c8.1 (by rw [e9]; exact gel_some c8) rfl fun a v15 A15 h => ?_
 refine s1 h rfl (v_loadAt1 rfl A15 isAgg2 rfl) fun a h => ?_
 refine cps 2 h rfl fun a h => ?_
 refine cN k h [2, 3, 4, 5] [_, _, _, _] fun h => ?_
 obtain ⟨J11, eJ11, hS⟩ := bv hS
 refine sqJ (fun a w => ∃ (Z : FZ) (s11 : Int × Bool), J11 s11 = some res ∧ Fr 35 [(2, .pointer (some ⟨p1, 0, none⟩)), (4, .int .i64 s11.1), (5, .bool s11.2)] a ∧ HZ w0 Zi Z [.blk p1 (Cel [.int .i64 0, .int .i64 0, S []] 26)] w) ?_ ?_
 rintro a w ⟨Z, s11, hS, h, H⟩
 subst eJ11
 refine rg fun K k => ?_
 refine cps 2 h rfl fun a h => ?_
 refine sC h H hS rfl (fun y12 f12 => dC call116 (value_Made_ok f12 :)) fun y12 hS w X H a h => ?_
 refine zS h H 0 sizeOf26 [_, _, _] [_, _, _] [_] fun w H => ?_
 refine cN k h [2] [_] fun h => ?_
 cases hS
 refine r1 hr h rfl (rvA H 0 isAgg26 sizeOf26 [_, _, _]) ⟨rfl, H.out⟩
 refine rg fun K k => ?_
 refine cps 1 h rfl fun a h => ?_
 obtain ⟨c13, hS⟩ := ck hS
 obtain ⟨z14, e14, hS⟩ := bv hS
 refine z_part_l (enc := (eI .i64)) (sz := 1) (fun _ => rfl) h underlying231 sizeOf2 rfl rfl r9_3 c13 rfl fun a v18_15 r18_15 h => ?_
 rw [← e14] at r18_15
 refine s1 h rfl (v_len underlying231 rfl (r18_15.at H.zin)) fun a h => ?_
 refine cps 1 h rfl fun a h => ?_
 refine cz k ?_
 refine lb ?_
 obtain ⟨B17, eB17, hS⟩ := bv hS
 refine lpJ (fun mu_ a w => ∃ (Z : FZ) (s17 : Int × Bool × Int), loopF B17 mu_ s17 = some res ∧ Fr 35 [(2, .pointer (some ⟨p1, 0, none⟩)), (4, .int .i64 s17.1), (5, .bool s17.2.1), (18, v18_15), (19, .int .i64 (z14.length : Int)), (20, .int .i64 s17.2.2)] a ∧ HZ w0 Zi Z [.blk p1 (Cel [.int .i64 0, .int .i64 0, S []] 26)] w ∧ RdZ Z v18_15 1 (eI .i64) z14) KK ⟨_, _, hS, h.to, H, r18_15⟩ ?_
 rintro mu_ a w ⟨Z, s17, hS, h, H, r18_15⟩
 obtain ⟨mu_, rfl, n17, en17, hS⟩ := lpX eB17 hS
 refine rg fun K k => ?_
 refine sB h hS rfl (v_lt rfl rfl) fun z19 e19 hS a h => ?_
 refine cz k ?_
 refine sq ?_
 refine cI h hS rfl (fun ec21 hS => ?_) fun ec21 hS => ?_
 refine c_skip ?_
 refine sb ?_
 refine rg fun K k => ?_
 obtain ⟨c23, hS⟩ := ck hS
 obtain ⟨z24, e24, hS⟩ := bv hS
 refine st_idx h underlying231 sizeOf2 rfl rfl (r18_15.at H.zin) (fun _ => rfl) z24 c23.1 (by rw [e24]; exact gel_some c23) rfl fun a v22 A22 h => ?_
 refine s1 h rfl (v_loadAt1 rfl A22 isAgg2 rfl) fun a h => ?_
 refine cps 1 h rfl fun a h => ?_
 refine cz k ?_
 refine rg fun K k => ?_
 refine cps 1 h rfl fun a h => ?_
 refine cz k ?_
 refine cI h hS rfl (fun ec25 hS => ?_) fun ec25 hS => ?_
 refine c_lregion ?_
 refine cps 2 h rfl fun a h => ?_
 refine sC h H hS rfl (fun y26 f26 => dC call56 (num_Mul_ok f26 :)) fun y26 hS w X H a h => ?_
 have A22 := At.ext A22 X
 refine cps 5 h rfl fun a h => ?_
 refine c_lnil ?_
 refine cO h [2, 4, 5, 18, 19, 20] [_, _, _, _, _, _] fun h => ?_
 refine c_lregion ?_
 refine sI h hS rfl (v_addw rfl rfl) fun z27 e27 hS a h => ?_
 refine cps 1 h rfl fun a h => ?_
 refine c_lnil ?_
 exact exL (ex2 ⟨lpN en17 hS, h.to, H, r18_15⟩)
 refine c_skip ?_
 refine cO h [2, 4, 5, 18, 19, 20] [_, _, _, _, _, _] fun h => ?_
 refine c_lregion ?_
 refine sI h hS rfl (v_addw rfl rfl) fun z28 e28 hS a h => ?_
 refine cps 1 h rfl fun a h => ?_
 refine c_lnil ?_
 exact exL (ex2 ⟨lpN en17 hS, h.to, H, r18_15⟩)
 exact c_exit (ex2 ⟨hS, h.to, H⟩)
theorem lists_SumProduct_ok {x0 : List (V)} {x1 : List (V)} {res : V} {w0 : World} (hS : lists_SumProduct x0 x1 = some res) {xv0 : Value} (rp0 : RdZ (hz w0) xv0 3 vL x0) {xv1 : Value} (rp1 : RdZ (hz w0) xv1 3 vL x1) : Calls Tryz.prog 220 [xv0, xv1].toArray w0 (Ret fun v w => v = .agg #[.int .i64 res.k, .int .i64 res.n, S res.s] ∧ Ext w0 w) := by
 refine en func220 [0, 1] [_, _] fun Q a Zi Z hzs H h hr => ?_
 have rp0 := rp0.sub hzs
 have rp1 := rp1.sub hzs
 clear hzs
 unfold lists_SumProduct at hS
 refine rg fun K k => ?_
 refine zA h H zeroValue26 [_, _, _] (fun x => [x]) fun a p1 w X H h => ?_
 refine cz k ?_
 refine sq ?_
 refine rg fun K k => ?_
 refine cps 1 h rfl fun a h => ?_
 refine s1 h rfl (v_len underlying63 rfl (rp0.at H.zin)) fun a h => ?_
 refine cps 1 h rfl fun a h => ?_
 refine s1 h rfl (v_len underlying63 rfl (rp1.at H.zin)) fun a h => ?_
 refine sB h hS rfl (v_ne rfl rfl) fun z3 e3 hS a h => ?_
 refine cN k h [0, 1, 4, 12] [_, _, _, _] fun h => ?_
 refine cI h hS rfl (fun ec4 hS => ?_) fun ec4 hS => ?_
 refine rg fun K k => ?_
 refine sC h H hS rfl (fun y5 f5 => dC call21 (value_Fail_ok f5 :)) fun y5 hS w X H a h => ?_
 refine zS h H 0 sizeOf26 [_, _, _] [_, _, _] [_] fun w H => ?_
 refine cN k h [4] [_] fun h => ?_
 cases hS
 refine r1 hr h rfl (rvA H 0 isAgg26 sizeOf26 [_, _, _]) ⟨rfl, H.out⟩
 refine c_skip ?_
 refine rg fun K k => ?_
 refine sC h H hS rfl (fun y6 f6 => dC call14 (value_Num_ok f6 :)) fun y6 hS w X H a h => ?_
 refine zA h H zeroValue26 [_, _, _] (fun x => [_, x]) fun a p7 w X H h => ?_
 refine zS h H 1 sizeOf26 [_, _, _] [_, _, _] [_, _] fun w H => ?_
 refine cz k ?_
 obtain ⟨J9, eJ9, hS⟩ := bv hS
 refine sqJ (fun a w => ∃ (Z : FZ) (s9 : Int × Int × (List UInt8) × Int × Int × (List UInt8)), J9 s9 = some res ∧ Fr 67 [(4, .pointer (some ⟨p1, 0, none⟩)), (5, .pointer (some ⟨p7, 0, none⟩))] a ∧ HZ w0 Zi Z [.blk p1 (Cel [.int .i64 s9.1, .int .i64 s9.2.1, S s9.2.2.1] 26), .blk p7 (Cel [.int .i64 s9.2.2.2.1, .int .i64 s9.2.2.2.2.1, S s9.2.2.2.2.2] 26)] w) ?_ ?_
 rintro a w ⟨Z, s9, hS, h, H⟩
 subst eJ9
 refine rg fun K k => ?_
 refine s1 h rfl (lA H 1 isAgg26 sizeOf26 [_, _, _]) fun a h => ?_
 refine zS h H 0 sizeOf26 [_, _, _] [_, _, _] [_, _] fun w H => ?_
 refine cz k ?_
 cases hS
 refine r1 hr h rfl (rvA H 0 isAgg26 sizeOf26 [_, _, _]) ⟨rfl, H.out⟩
 refine rg fun K k => ?_
 refine cps 1 h rfl fun a h => ?_
 refine s1 h rfl (v_len underlying63 rfl (rp0.at H.zin)) fun a h => ?_
 refine cps 1 h rfl fun a h => ?_
 refine cz k ?_
 refine lb ?_
 obtain ⟨B11, eB11, hS⟩ := bv hS
 refine lpJ (fun mu_ a w => ∃ (Z : FZ) (s11 : Int × Int × Int × (List UInt8) × Int × Int × (List UInt8)), loopF B11 mu_ s11 = some res ∧ Fr 67 [(0, xv0), (1, xv1), (4, .pointer (some ⟨p1, 0, none⟩)), (5, .pointer (some ⟨p7, 0, none⟩)), (16, .int .i64 (x0.length : Int)), (17, .int .i64 s11.1)] a ∧ HZ w0 Zi Z [.blk p1 (Cel [.int .i64 s11.2.1, .int .i64 s11.2.2.1, S s11.2.2.2.1] 26), .blk p7 (Cel [.int .i64 s11.2.2.2.2.1, .int .i64 s11.2.2.2.2.2.1, S s11.2.2.2.2.2.2] 26)] w ∧ RdZ Z xv0 3 vL x0 ∧ RdZ Z xv1 3 vL x1) KK ⟨_, _, hS, h.to, H, rp0, rp1⟩ ?_
 rintro mu_ a w ⟨Z, s11, hS, h, H, rp0, rp1⟩
 obtain ⟨mu_, rfl, n11, en11, hS⟩ := lpX eB11 hS
 refine rg fun K k => ?_
 refine sB h hS rfl (v_lt rfl rfl) fun z13 e13 hS a h => ?_
 refine cz k ?_
 refine sq ?_
 refine cI h hS rfl (fun ec15 hS => ?_) fun ec15 hS => ?_
 refine c_skip ?_
 refine sb ?_
 refine rg fun K k => ?_
 refine cps 2 h rfl fun a h => ?_
 refine cz k ?_
 refine sq ?_
 refine rg fun K k => ?_
 refine cps 2 h rfl fun a h => ?_
 obtain ⟨c18, hS⟩ := ck hS
 obtain ⟨z19, e19, hS⟩ := bv hS
 refine st_idx h underlying63 sizeOf26 rfl rfl (rp0.at H.zin) (fun _ => rfl) z19 c18.1 (by rw [e19]; exact gel_some c18) rfl fun a v22 A22 h => ?_
 refine st_fieldAt h rfl A22 underlying26 rfl sizeOf3 rfl rfl rfl fun a v23 A23 h => ?_
 refine s1 h rfl (v_loadAt1 rfl A23 isAgg3 rfl) fun a h => ?_
 refine sB h hS rfl (v_ne rfl rfl) fun z20 e20 hS a h => ?_
 refine cps 1 h rfl fun a h => ?_
 refine st_g h rfl rfl (gF rfl) rfl rfl (fun e0 => v_move rfl) fun a h => ?_
 refine st_g h rfl rfl (gF rfl) rfl rfl (fun e0 => v_move rfl) fun a h => ?_
 obtain ⟨c21, hS⟩ := ck hS
 obtain ⟨z22, e22, hS⟩ := bv hS
 refine st_idxG h rfl (gF rfl) underlying63 sizeOf26 (fun e0 => (eg e0 rfl)) (fun e0 => (eg e0 rfl)) (rp1.at H.zin) (fun _ => rfl) z22 (fun e0 => (c21 e0).1) (fun e0 => (by rw [e22]; exact gel_some (c21 e0))) rfl fun a v29 A29 h => ?_
 refine st_fieldG h rfl (gF rfl) (fun e0 => (eg e0 rfl)) (fun e0 => (A29 e0)) underlying26 rfl sizeOf3 rfl rfl rfl fun a v30 A30 h => ?_
 refine st_g h rfl rfl (gF rfl) rfl rfl (fun e0 => v_loadAt1 (eg e0 rfl) (A30 e0) isAgg3 rfl) fun a h => ?_
 obtain ⟨z23, e23, hS⟩ := bv hS
 refine st_g h rfl rfl (gF rfl) rfl rfl (fun e0 => vB e23 (v_ne (eg e0 rfl) rfl)) fun a h => ?_
 refine sB h hS rfl (v_or rfl rfl) fun z24 e24 hS a h => ?_
 refine cN k h [0, 1, 4, 5, 6, 16, 17, 33] [_, _, _, _, _, _, _, _] fun h => ?_
 refine cI h hS rfl (fun ec25 hS => ?_) fun ec25 hS => ?_
 refine c_exit ?_
 refine c_lregion ?_
 refine sI h hS rfl (v_addw rfl rfl) fun z26 e26 hS a h => ?_
 refine cps 1 h rfl fun a h => ?_
 refine c_lnil ?_
 exact exL (ex2 ⟨lpN en11 hS, h.to, H, rp0, rp1⟩)
 refine c_skip ?_
 refine flT 13 h fun K k => ?_
 refine F1 rfl (fun w X => have H := H.ext X; lA H 1 isAgg26 sizeOf26 [_, _, _]) ?_
 refine fcps 2 rfl ?_
 obtain ⟨c27, hS⟩ := ck hS
 obtain ⟨z28, e28, hS⟩ := bv hS
 refine f_op [35, 36] rfl rfl rfl rfl false (.rel (fun w' v' => At w' v' vL z28 0)) at_stab (fun w X => ?_) ?_
 skip
 exact have H := H.ext X; d_idx underlying63 sizeOf26 rfl rfl (rp0.at H.zin) (fun _ => rfl) z28 c27.1 (by rw [e28]; exact gel_some c27)
 refine f_op [37] rfl rfl rfl rfl false (.eq (.agg #[.int .i64 z28.k, .int .i64 z28.n, S z28.s])) trivial (fun w X => ?_) ?_
 intro v37 h37
 exact (v_loadAtA [_, _, _] rfl h37 isAgg26 sizeOf26 rfl rfl).doesF
 refine fcps 2 rfl ?_
 obtain ⟨c29, hS⟩ := ck hS
 obtain ⟨z30, e30, hS⟩ := bv hS
 refine f_op [39, 40] rfl rfl rfl rfl false (.rel (fun w' v' => At w' v' vL z30 0)) at_stab (fun w X => ?_) ?_
 skip
 exact have H := H.ext X; d_idx underlying63 sizeOf26 rfl rfl (rp1.at H.zin) (fun _ => rfl) z30 c29.1 (by rw [e30]; exact gel_some c29)
 refine f_op [41] rfl rfl rfl rfl false (.eq (.agg #[.int .i64 z30.k, .int .i64 z30.n, S z30.s])) trivial (fun w X => ?_) ?_
 intro v41 h41
 exact (v_loadAtA [_, _, _] rfl h41 isAgg26 sizeOf26 rfl rfl).doesF
 refine f_op [38, 42] rfl rfl rfl rfl false (.rel (fun w' v' => RdZ (ZB Z w.heap.size w') v' 3 vL ([z28, z30] : List (V)))) rd_stab (fun w X => ?_) ?_
 skip
 exact d_sliceR (enc := vL) ([z28, z30] : List (V)) H.zin X underlying63 sizeOf26 zeroValue26 rfl (zl := [.int .i64 0, .int .i64 0, S [], .int .i64 0, .int .i64 0, S []]) (by kernel_rfl) (plA_get 2 3) [_, _] [_, _, _, _, _, _] rfl rfl rfl rfl
 obtain ⟨y31, f31, hS⟩ := bo hS
 refine f_op [43] rfl rfl rfl rfl false (.eq (.agg #[.int .i64 y31.k, .int .i64 y31.n, S y31.s])) trivial (fun w X => ?_) ?_
 intro v43 h43
 exact have Hs := ZB.of H.zin X; have H := H.ext X; Does.doesF (dC call215 (lists_Product_ok (x0 := [z28, z30]) f31 (h43.hz (ZB.inn H.zin))))
 refine f_op [34, 44] rfl rfl rfl rfl false (.rel (fun w' v' => RdZ (ZB Z w.heap.size w') v' 3 vL ([(⟨s11.2.2.2.2.1, s11.2.2.2.2.2.1, s11.2.2.2.2.2.2⟩ : V), y31] : List (V)))) rd_stab (fun w X => ?_) ?_
 skip
 exact d_sliceR (enc := vL) ([(⟨s11.2.2.2.2.1, s11.2.2.2.2.2.1, s11.2.2.2.2.2.2⟩ : V), y31] : List (V)) H.zin X underlying63 sizeOf26 zeroValue26 rfl (zl := [.int .i64 0, .int .i64 0, S [], .int .i64 0, .int .i64 0, S []]) (by kernel_rfl) (plA_get 2 3) [_, _] [_, _, _, _, _, _] rfl rfl rfl rfl
 obtain ⟨y32, f32, hS⟩ := bo hS
 refine f_op [45] rfl rfl rfl rfl false (.eq (.agg #[.int .i64 y32.k, .int .i64 y32.n, S y32.s])) trivial (fun w X => ?_) ?_
 intro v45 h45
 exact have Hs := ZB.of H.zin X; have H := H.ext X; Does.doesF (dC call214 (lists_Sum_ok (x0 := [(⟨s11.2.2.2.2.1, s11.2.2.2.2.2.1, s11.2.2.2.2.2.2⟩ : V), y31]) f32 (h45.hz (ZB.inn H.zin))))
 refine fE [0, 1, 4, 5, 6, 16, 17, 46] [_, _, _, _, _, _, _, _] H fun a w X H h => ?_
 refine zS h H 1 sizeOf26 [_, _, _] [_, _, _] [_, _] fun w H => ?_
 refine cz k ?_
 refine sq ?_
 refine flT 11 h fun K k => ?_
 refine fcps 2 rfl ?_
 obtain ⟨c34, hS⟩ := ck hS
 obtain ⟨z35, e35, hS⟩ := bv hS
 refine f_op [47, 48] rfl rfl rfl rfl false (.rel (fun w' v' => At w' v' vL z35 0)) at_stab (fun w X => ?_) ?_
 skip
 exact have H := H.ext X; d_idx underlying63 sizeOf26 rfl rfl (rp0.at H.zin) (fun _ => rfl) z35 c34.1 (by rw [e35]; exact gel_some c34)
 refine f_op [49] rfl rfl rfl rfl false (.eq (.agg #[.int .i64 z35.k, .int .i64 z35.n, S z35.s])) trivial (fun w X => ?_) ?_
 intro v49 h49
 exact (v_loadAtA [_, _, _] rfl h49 isAgg26 sizeOf26 rfl rfl).doesF
 refine fcps 2 rfl ?_
 obtain ⟨c36, hS⟩ := ck hS
 obtain ⟨z37, e37, hS⟩ := bv hS
 refine f_op [51, 52] rfl rfl rfl rfl false (.rel (fun w' v' => At w' v' vL z37 0)) at_stab (fun w X => ?_) ?_
 skip
 exact have H := H.ext X; d_idx underlying63 sizeOf26 rfl rfl (rp1.at H.zin) (fun _ => rfl) z37 c36.1 (by rw [e37]; exact gel_some c36)
 refine f_op [53] rfl rfl rfl rfl false (.eq (.agg #[.int .i64 z37.k, .int .i64 z37.n, S z37.s])) trivial (fun w X => ?_) ?_
 intro v53 h53
 exact (v_loadAtA [_, _, _] rfl h53 isAgg26 sizeOf26 rfl rfl).doesF
 refine f_op [50, 54] rfl rfl rfl rfl false (.rel (fun w' v' => RdZ (ZB Z w.heap.size w') v' 3 vL ([z35, z37] : List (V)))) rd_stab (fun w X => ?_) ?_
 skip
 exact d_sliceR (enc := vL) ([z35, z37] : List (V)) H.zin X underlying63 sizeOf26 zeroValue26 rfl (zl := [.int .i64 0, .int .i64 0, S [], .int .i64 0, .int .i64 0, S []]) (by kernel_rfl) (plA_get 2 3) [_, _] [_, _, _, _, _, _] rfl rfl rfl rfl
 obtain ⟨y38, f38, hS⟩ := bo hS
 refine f_op [55] rfl rfl rfl rfl false (.eq (.agg #[.int .i64 y38.k, .int .i64 y38.n, S y38.s])) trivial (fun w X => ?_) ?_
 intro v55 h55
 exact have Hs := ZB.of H.zin X; have H := H.ext X; Does.doesF (dC call215 (lists_Product_ok (x0 := [z35, z37]) f38 (h55.hz (ZB.inn H.zin))))
 refine f_alloc zeroValue26 [_, _, _] rfl rfl ?_
 refine fn_ ?_
 intro a w X hR hA
 obtain ⟨_, ⟨p39, rfl, hb7⟩, h⟩ := hR.out [0, 1, 4, 5, 7, 16, 17, 56]
 have h : Fr 67 [(56, _), (17, _), (16, _), (7, _), (5, _), (4, _), (1, _), (0, _)] a := h
 have lo7 := hA.lo' h (s := 7) rfl rfl
 have H := H.pushF X hb7 lo7
 have H : HZ w0 _ _ [_, _, _] _ := H
 refine zS h H 2 sizeOf26 [_, _, _] [_, _, _] [_, _, _] fun w H => ?_
 refine cz k ?_
 refine rg fun K k => ?_
 refine s1 h rfl (v_fieldAddr rfl underlying26 rfl sizeOf3 rfl rfl) fun a h => ?_
 refine s1 h rfl (l1 H 2 isAgg3) fun a h => ?_
 refine sB h hS rfl (v_eq rfl rfl) fun z40 e40 hS a h => ?_
 refine cz k ?_
 refine cI h hS rfl (fun ec41 hS => ?_) fun ec41 hS => ?_
 refine rg fun K k => ?_
 refine s1 h rfl (lA H 2 isAgg26 sizeOf26 [_, _, _]) fun a h => ?_
 refine zS h H 0 sizeOf26 [_, _, _] [_, _, _] [_, _, _] fun w H => ?_
 refine cN k h [4] [_] fun h => ?_
 cases hS
 refine r1 hr h rfl (rvA H 0 isAgg26 sizeOf26 [_, _, _]) ⟨rfl, H.out⟩
 refine c_skip ?_
 refine cO h [0, 1, 4, 5, 16, 17] [_, _, _, _, _, _] fun h => ?_
 refine rg fun K k => ?_
 refine s1 h rfl (v_fieldAddr rfl underlying26 rfl sizeOf3 rfl rfl) fun a h => ?_
 refine s1 h rfl (l1 H 1 isAgg3) fun a h => ?_
 refine sB h hS rfl (v_eq rfl rfl) fun z42 e42 hS a h => ?_
 refine cz k ?_
 refine cI h hS rfl (fun ec43 hS => ?_) fun ec43 hS => ?_
 refine rg fun K k => ?_
 refine s1 h rfl (lA H 1 isAgg26 sizeOf26 [_, _, _]) fun a h => ?_
 refine zS h H 0 sizeOf26 [_, _, _] [_, _, _] [_, _, _] fun w H => ?_
 refine cN k h [4] [_] fun h => ?_
 cases hS
 refine r1 hr h rfl (rvA H 0 isAgg26 sizeOf26 [_, _, _]) ⟨rfl, H.out⟩
 refine c_skip ?_
 refine c_lregion ?_
 refine sI h hS rfl (v_addw rfl rfl) fun z44 e44 hS a h => ?_
 refine cps 1 h rfl fun a h => ?_
 refine c_lnil ?_
 exact exL (ex2 ⟨lpN en11 hS, h.to, (H.keepN 2 rfl), rp0, rp1⟩)
 exact c_exit (ex2 ⟨hS, h.to, H⟩)
theorem value_ToNum_ok {x0 : V} {res : V} {w0 : World} (hS : value_ToNum x0 = some res) : Calls Tryz.prog 115 [.agg #[.int .i64 x0.k, .int .i64 x0.n, S x0.s]].toArray w0 (Ret fun v w => v = .agg #[.int .i64 res.k, .int .i64 res.n, S res.s] ∧ Ext w0 w) := by
 refine en func115 [0] [_] fun Q a Zi Z hzs H h hr => ?_
 clear hzs
 unfold value_ToNum at hS
 refine rg fun K k => ?_
 refine z_box h H rfl [_, _, _] rfl rfl fun a p1 w X H h => ?_
 have H : HZ w0 _ _ [_] _ := H
 refine zA h H zeroValue26 [_, _, _] (fun x => [_, x]) fun a p2 w X H h => ?_
 refine cz k ?_
 refine sq ?_
 refine rg fun K k => ?_
 refine s1 h rfl (v_fieldAddr rfl underlying26 rfl sizeOf3 rfl rfl) fun a h => ?_
 refine s1 h rfl (l1 H 0 isAgg3) fun a h => ?_
 refine cz k ?_
 refine lb ?_
 obtain ⟨J6, eJ6, hS⟩ := bv hS
 refine sqJ (fun a w => ∃ (Z : FZ) (s6 : Bool), J6 s6 = some res ∧ Fr 41 [(1, .pointer (some ⟨p1, 0, none⟩)), (2, .pointer (some ⟨p2, 0, none⟩)), (8, .int .i64 x0.k), (9, .bool s6)] a ∧ HZ w0 Zi Z [.blk p1 (Cel [.int .i64 x0.k, .int .i64 x0.n, S x0.s] 26), .blk p2 (Cel [.int .i64 0, .int .i64 0, S []] 26)] w) ?_ ?_
 rintro a w ⟨Z, s6, hS, h, H⟩
 subst eJ6
 refine cI h hS rfl (fun ec7 hS => ?_) fun ec7 hS => ?_
 refine rg fun K k => ?_
 refine s1 h rfl (lA H 0 isAgg26 sizeOf26 [_, _, _]) fun a h => ?_
 refine zS h H 1 sizeOf26 [_, _, _] [_, _, _] [_, _] fun w H => ?_
 refine cN k h [2] [_] fun h => ?_
 cases hS
 refine r1 hr h rfl (rvA H 1 isAgg26 sizeOf26 [_, _, _]) ⟨rfl, H.out⟩
 refine rg fun K k => ?_
 refine sB h hS rfl (v_eq rfl rfl) fun z8 e8 hS a h => ?_
 refine cps 1 h rfl fun a h => ?_
 refine cz k ?_
 refine cI h hS rfl (fun ec9 hS => ?_) fun ec9 hS => ?_
 refine rg fun K k => ?_
 refine sC h H hS rfl (fun y10 f10 => dC call14 (value_Num_ok f10 :)) fun y10 hS w X H a h => ?_
 refine zS h H 1 sizeOf26 [_, _, _] [_, _, _] [_, _] fun w H => ?_
 refine cN k h [2] [_] fun h => ?_
 cases hS
 refine r1 hr h rfl (rvA H 1 isAgg26 sizeOf26 [_, _, _]) ⟨rfl, H.out⟩
 refine rg fun K k => ?_
 refine sB h hS rfl (v_eq rfl rfl) fun z11 e11 hS a h => ?_
 refine cps 1 h rfl fun a h => ?_
 refine cN k h [1, 2, 16] [_, _, _] fun h => ?_
 refine cI h hS rfl (fun ec12 hS => ?_) fun ec12 hS => ?_
 refine rg fun K k => ?_
 refine s1 h rfl (v_fieldAddr rfl underlying26 rfl sizeOf2 rfl rfl) fun a h => ?_
 refine s1 h rfl (l1 H 0 isAgg2) fun a h => ?_
 refine sI h hS rfl (v_mulw rfl rfl) fun z13 e13 hS a h => ?_
 refine sC h H hS rfl (fun y14 f14 => dC call14 (value_Num_ok f14 :)) fun y14 hS w X H a h => ?_
 refine zS h H 1 sizeOf26 [_, _, _] [_, _, _] [_, _] fun w H => ?_
 refine cN k h [2] [_] fun h => ?_
 cases hS
 refine r1 hr h rfl (rvA H 1 isAgg26 sizeOf26 [_, _, _]) ⟨rfl, H.out⟩
 exact nomatch hS
 refine rg fun K k => ?_
 refine sB h hS rfl (v_eq rfl rfl) fun z17 e17 hS a h => ?_
 refine cps 1 h rfl fun a h => ?_
 refine cz k ?_
 refine cI h hS rfl (fun ec18 hS => ?_) fun ec18 hS => ?_
 exact c_skip (ex2 ⟨hS, h.to, H⟩)
 refine c_lregion ?_
 refine sB h hS rfl (v_eq rfl rfl) fun z19 e19 hS a h => ?_
 refine cps 1 h rfl fun a h => ?_
 refine c_lnil ?_
 exact ex2 ⟨hS, h.to, H⟩
theorem funcs_all_ok {x0 : List (Arg)} {res : (List (V))} {w0 : World} (hS : funcs_all x0 = some res) {xv0 : Value} (rp0 : RdN (hz w0) xv0 argEnc x0) : Calls Tryz.prog 213 [xv0].toArray w0 (Ret fun v w => RdZ (ZB Z0 w0.heap.size w) v 3 vL res ∧ Ext w0 w) := by
 refine en func213 [0] [_] fun Q a Zi Z hzs H h hr => ?_
 have rp0 := rp0.sub hzs
 clear hzs
 unfold funcs_all at hS
 refine rg fun K k => ?_
 refine cps 1 h rfl fun a h => ?_
 refine cz k ?_
 refine rg fun K k => ?_
 refine cps 1 h rfl fun a h => ?_
 refine cz k ?_
 have H := H.nilRow 26 3 rfl
 have H : HZ w0 _ _ [_] _ := H
 obtain ⟨J2, eJ2, hS⟩ := bv hS
 refine sqJ (fun a w => ∃ (Z : FZ) (s2 : (List (V))) (sv3 : Value), J2 s2 = some res ∧ Fr 18 [(3, sv3)] a ∧ HZ w0 Zi Z [.row 26 3 sv3 (s2 : List (V)).length ((s2 : List (V)).flatMap vL)] w) ?_ ?_
 rintro a w ⟨Z, s2, sv3, hS, h, H⟩
 subst eJ2
 refine rg fun K k => ?_
 refine cps 2 h rfl fun a h => ?_
 refine cz k ?_
 cases hS
 refine r1 hr h rfl rfl ⟨(H.backRow (i := 0) rfl), H.out⟩
 refine rg fun K k => ?_
 refine cps 1 h rfl fun a h => ?_
 refine s1 h rfl (v_lenN underlying179 rfl rp0 H.zin) fun a h => ?_
 refine cps 1 h rfl fun a h => ?_
 refine cz k ?_
 refine lb ?_
 obtain ⟨B5, eB5, hS⟩ := bv hS
 refine lpJ (fun mu_ a w => ∃ (Z : FZ) (s5 : Int × (List (V))) (sv7 : Value), loopF B5 mu_ s5 = some res ∧ Fr 18 [(3, sv7), (6, xv0), (7, .int .i64 (x0.length : Int)), (8, .int .i64 s5.1)] a ∧ HZ w0 Zi Z [.row 26 3 sv7 (s5.2 : List (V)).length ((s5.2 : List (V)).flatMap vL)] w ∧ RdN Z xv0 argEnc x0) KK ⟨_, _, _, hS, h.to, H, rp0⟩ ?_
 rintro mu_ a w ⟨Z, s5, sv7, hS, h, H, rp0⟩
 obtain ⟨mu_, rfl, n5, en5, hS⟩ := lpX eB5 hS
 refine rg fun K k => ?_
 refine sB h hS rfl (v_lt rfl rfl) fun z8 e8 hS a h => ?_
 refine cz k ?_
 refine sq ?_
 refine cI h hS rfl (fun ec10 hS => ?_) fun ec10 hS => ?_
 refine c_skip ?_
 refine sb ?_
 refine rg fun K k => ?_
 obtain ⟨c12, hS⟩ := ck hS
 obtain ⟨z13, e13, hS⟩ := bv hS
 have q_14 := rp0.gel ⟨_, argEnc_dflt⟩ s5.1
 rw [← e13] at q_14
 obtain ⟨css_14, cl_14, rc_14, hc_14, v10_14_1, hcs_14, r10_14_1⟩ := q_14
 refine st_idxC h underlying179 sizeOf182 rfl rfl (rc_14.at H.zin) c12.1 (hc_14 c12) hcs_14 rfl fun a v10 A10 h => ?_
 refine s1 h rfl (v_loadAtA [_, _, _] rfl A10 isAgg182 sizeOf182 rfl rfl) fun a h => ?_
 refine zA h H zeroValue182 [_, _, _] (fun x => [_, x]) fun a p15 w X H h => ?_
 have A10 := At.ext A10 X
 refine z_store h H 1 rfl rfl rfl sizeOf182 [_, _, _] rfl rfl (by obtain ⟨_, _, _, e_⟩ := (r10_14_1).form; subst e_; rfl) (by simp) [_, _, _] rfl (hl' := [_, _]) rfl fun w H => ?_
 refine cz k ?_
 refine c_lregion ?_
 refine cps 1 h rfl fun a h => ?_
 refine s1 h rfl (v_fieldAddr rfl underlying182 rfl sizeOf63 rfl rfl) fun a h => ?_
 refine s1 h rfl (l1 H 1 isAgg63) fun a h => ?_
 obtain ⟨c17, hS⟩ := ck hS
 obtain ⟨z18, e18, hS⟩ := bv hS
 refine z_appendS (enc := vL) (out := s5.2) (data := z13.l) h H 0 rfl underlying63 app26 rfl rfl rfl r10_14_1 (fun _ => rfl) (fun _ _ => rfl) c17 rfl fun a v15_16 w H h => ?_
 rw [← e18] at H
 have H : HZ w0 _ _ [_, _] _ := H
 refine cps 1 h rfl fun a h => ?_
 refine c_lnil ?_
 refine cO h [3, 6, 7, 8] [_, _, _, _] fun h => ?_
 refine c_lregion ?_
 refine sI h hS rfl (v_addw rfl rfl) fun z19 e19 hS a h => ?_
 refine cps 1 h rfl fun a h => ?_
 refine c_lnil ?_
 exact exL (ex3 ⟨lpN en5 hS, h.to, (H.keepN 1 rfl), rp0⟩)
 exact c_exit (ex3 ⟨hS, h.to, H⟩)
theorem funcs_list_ok {x0 : List UInt8} {x1 : List (Arg)} {res : V} {w0 : World} (hS : funcs_list x0 x1 = some res) {xv1 : Value} (rp1 : RdN (hz w0) xv1 argEnc x1) : Calls Tryz.prog 170 [S x0, xv1].toArray w0 (Ret fun v w => v = .agg #[.int .i64 res.k, .int .i64 res.n, S res.s] ∧ Ext w0 w) := by
 refine en func170 [0, 1] [_, _] fun Q a Zi Z hzs H h hr => ?_
 have rp1 := rp1.sub hzs
 clear hzs
 unfold funcs_list at hS
 refine rg fun K k => ?_
 refine zA h H zeroValue26 [_, _, _] (fun x => [x]) fun a p1 w X H h => ?_
 refine cz k ?_
 refine sq ?_
 refine rg fun K k => ?_
 refine cps 1 h rfl fun a h => ?_
 refine cz k ?_
 refine lb ?_
 obtain ⟨J5, eJ5, hS⟩ := bv hS
 refine sqJ (fun a w => ∃ (Z : FZ) (s5 : Bool), J5 s5 = some res ∧ Fr 186 [(0, S x0), (1, xv1), (4, .pointer (some ⟨p1, 0, none⟩)), (9, S x0), (10, .bool s5)] a ∧ HZ w0 Zi Z [.blk p1 (Cel [.int .i64 0, .int .i64 0, S []] 26)] w ∧ RdN Z xv1 argEnc x1) ?_ ?_
 rintro a w ⟨Z, s5, hS, h, H, rp1⟩
 subst eJ5
 refine cI h hS rfl (fun ec6 hS => ?_) fun ec6 hS => ?_
 exact nomatch hS
 refine rg fun K k => ?_
 refine sB h hS rfl (v_seq rfl rfl) fun z10 e10 hS a h => ?_
 refine cps 1 h rfl fun a h => ?_
 refine cz k ?_
 refine cI h hS rfl (fun ec11 hS => ?_) fun ec11 hS => ?_
 refine rg fun K k => ?_
 refine cps 1 h rfl fun a h => ?_
 obtain ⟨y12, f12, hS⟩ := bo hS
 refine z_callR (data := y12) h H rfl rfl rfl (dC call213 (funcs_all_ok (x0 := x1) f12 (rp1.hz H.zin))) fun v21_13 Z w hsub X H r21_13 a h => ?_
 have rp1 := rp1.sub hsub
 refine sC h H hS rfl (fun y14 f14 => dC call214 (lists_Sum_ok f14 (r21_13.hz H.zin) :)) fun y14 hS w X H a h => ?_
 refine zS h H 0 sizeOf26 [_, _, _] [_, _, _] [_] fun w H => ?_
 refine cN k h [4] [_] fun h => ?_
 cases hS
 refine r1 hr h rfl (rvA H 0 isAgg26 sizeOf26 [_, _, _]) ⟨rfl, H.out⟩
 refine rg fun K k => ?_
 refine sB h hS rfl (v_seq rfl rfl) fun z15 e15 hS a h => ?_
 refine cps 1 h rfl fun a h => ?_
 refine cN k h [0, 1, 4, 9, 23] [_, _, _, _, _] fun h => ?_
 refine cI h hS rfl (fun ec16 hS => ?_) fun ec16 hS => ?_
 refine rg fun K k => ?_
 refine cps 1 h rfl fun a h => ?_
 obtain ⟨y17, f17, hS⟩ := bo hS
 refine z_callR (data := y17) h H rfl rfl rfl (dC call213 (funcs_all_ok (x0 := x1) f17 (rp1.hz H.zin))) fun v26_18 Z w hsub X H r26_18 a h => ?_
 have rp1 := rp1.sub hsub
 refine sC h H hS rfl (fun y19 f19 => dC call215 (lists_Product_ok f19 (r26_18.hz H.zin) :)) fun y19 hS w X H a h => ?_
 refine zS h H 0 sizeOf26 [_, _, _] [_, _, _] [_] fun w H => ?_
 refine cN k h [4] [_] fun h => ?_
 cases hS
 refine r1 hr h rfl (rvA H 0 isAgg26 sizeOf26 [_, _, _]) ⟨rfl, H.out⟩
 refine rg fun K k => ?_
 refine sB h hS rfl (v_seq rfl rfl) fun z20 e20 hS a h => ?_
 refine cps 1 h rfl fun a h => ?_
 refine cz k ?_
 refine cI h hS rfl (fun ec21 hS => ?_) fun ec21 hS => ?_
 exact nomatch hS
 refine rg fun K k => ?_
 refine sB h hS rfl (v_seq rfl rfl) fun z24 e24 hS a h => ?_
 refine cps 1 h rfl fun a h => ?_
 refine cN k h [0, 1, 4, 9, 33] [_, _, _, _, _] fun h => ?_
 refine cI h hS rfl (fun ec25 hS => ?_) fun ec25 hS => ?_
 exact nomatch hS
 refine rg fun K k => ?_
 refine sB h hS rfl (v_seq rfl rfl) fun z28 e28 hS a h => ?_
 refine cps 1 h rfl fun a h => ?_
 refine cz k ?_
 refine cI h hS rfl (fun ec29 hS => ?_) fun ec29 hS => ?_
 exact nomatch hS
 refine rg fun K k => ?_
 refine sB h hS rfl (v_seq rfl rfl) fun z32 e32 hS a h => ?_
 refine cps 1 h rfl fun a h => ?_
 refine cN k h [0, 1, 4, 9, 43] [_, _, _, _, _] fun h => ?_
 refine cI h hS rfl (fun ec33 hS => ?_) fun ec33 hS => ?_
 exact nomatch hS
 refine rg fun K k => ?_
 refine sB h hS rfl (v_seq rfl rfl) fun z36 e36 hS a h => ?_
 refine cps 1 h rfl fun a h => ?_
 refine cz k ?_
 refine cI h hS rfl (fun ec37 hS => ?_) fun ec37 hS => ?_
 exact nomatch hS
 refine rg fun K k => ?_
 refine sB h hS rfl (v_seq rfl rfl) fun z41 e41 hS a h => ?_
 refine cps 1 h rfl fun a h => ?_
 refine cN k h [0, 1, 4, 9, 59] [_, _, _, _, _] fun h => ?_
 refine cI h hS rfl (fun ec42 hS => ?_) fun ec42 hS => ?_
 exact nomatch hS
 refine rg fun K k => ?_
 refine sB h hS rfl (v_seq rfl rfl) fun z46 e46 hS a h => ?_
 refine cps 1 h rfl fun a h => ?_
 refine cz k ?_
 refine cI h hS rfl (fun ec47 hS => ?_) fun ec47 hS => ?_
 refine flT 9 h fun K k => ?_
 refine fcps 1 rfl ?_
 obtain ⟨c48, hS⟩ := ck hS
 obtain ⟨z49, e49, hS⟩ := bv hS
 have q_50 := rp1.gel ⟨_, argEnc_dflt⟩ 0
 rw [← e49] at q_50
 obtain ⟨css_50, cl_50, rc_50, hc_50, v73_50_1, hcs_50, r73_50_1⟩ := q_50
 refine f_op [72] rfl rfl rfl rfl false (.rel (fun w' v' => At w' v' (fun _ : Unit => [.bool z49.area, .int .i64 z49.cols, v73_50_1]) () 0)) at_stab (fun w X => ?_) ?_
 skip
 exact have H := H.ext X; d_idxC underlying179 sizeOf182 rfl rfl (rc_50.at H.zin) c48.1 (hc_50 c48) hcs_50
 refine f_op [73] rfl rfl rfl rfl false (.rel (fun w' v' => At w' v' (fun _ : Unit => [.bool z49.area, .int .i64 z49.cols, v73_50_1]) () 2)) at_stab (fun w X => ?_) ?_
 intro v73 h73
 exact d_field rfl h73 underlying182 rfl sizeOf63 rfl rfl
 refine f_op [74] rfl rfl rfl rfl false (.eq (v73_50_1)) trivial (fun w X => ?_) ?_
 intro v74 h74
 exact (v_loadAt1 rfl h74 isAgg63 rfl).doesF
 refine fcps 1 rfl ?_
 obtain ⟨c51, hS⟩ := ck hS
 obtain ⟨z52, e52, hS⟩ := bv hS
 have q_53 := rp1.gel ⟨_, argEnc_dflt⟩ 1
 rw [← e52] at q_53
 obtain ⟨css_53, cl_53, rc_53, hc_53, v77_53_1, hcs_53, r77_53_1⟩ := q_53
 refine f_op [76] rfl rfl rfl rfl false (.rel (fun w' v' => At w' v' (fun _ : Unit => [.bool z52.area, .int .i64 z52.cols, v77_53_1]) () 0)) at_stab (fun w X => ?_) ?_
 skip
 exact have H := H.ext X; d_idxC underlying179 sizeOf182 rfl rfl (rc_53.at H.zin) c51.1 (hc_53 c51) hcs_53
 refine f_op [77] rfl rfl rfl rfl false (.rel (fun w' v' => At w' v' (fun _ : Unit => [.bool z52.area, .int .i64 z52.cols, v77_53_1]) () 2)) at_stab (fun w X => ?_) ?_
 intro v77 h77
 exact d_field rfl h77 underlying182 rfl sizeOf63 rfl rfl
 refine f_op [78] rfl rfl rfl rfl false (.eq (v77_53_1)) trivial (fun w X => ?_) ?_
 intro v78 h78
 exact (v_loadAt1 rfl h78 isAgg63 rfl).doesF
 refine fC hS rfl (fun y54 f54 w X => have H := H.ext X; dC call220 (lists_SumProduct_ok f54 (r73_50_1.hz H.zin) (r77_53_1.hz H.zin) :)) fun y54 hS => ?_
 refine fE [4, 80] [_, _] H fun a w X H h => ?_
 refine zS h H 0 sizeOf26 [_, _, _] [_, _, _] [_] fun w H => ?_
 refine cz k ?_
 cases hS
 refine r1 hr h rfl (rvA H 0 isAgg26 sizeOf26 [_, _, _]) ⟨rfl, H.out⟩
 refine rg fun K k => ?_
 refine sB h hS rfl (v_seq rfl rfl) fun z55 e55 hS a h => ?_
 refine cps 1 h rfl fun a h => ?_
 refine cN k h [0, 1, 4, 9, 81] [_, _, _, _, _] fun h => ?_
 refine cI h hS rfl (fun ec56 hS => ?_) fun ec56 hS => ?_
 exact nomatch hS
 refine rg fun K k => ?_
 refine sB h hS rfl (v_seq rfl rfl) fun z60 e60 hS a h => ?_
 refine cps 1 h rfl fun a h => ?_
 refine cz k ?_
 refine cI h hS rfl (fun ec61 hS => ?_) fun ec61 hS => ?_
 refine flT 15 h fun K k => ?_
 refine fcps 1 rfl ?_
 obtain ⟨c62, hS⟩ := ck hS
 obtain ⟨z63, e63, hS⟩ := bv hS
 have q_64 := rp1.gel ⟨_, argEnc_dflt⟩ 0
 rw [← e63] at q_64
 obtain ⟨css_64, cl_64, rc_64, hc_64, v95_64_1, hcs_64, r95_64_1⟩ := q_64
 refine f_op [94] rfl rfl rfl rfl false (.rel (fun w' v' => At w' v' (fun _ : Unit => [.bool z63.area, .int .i64 z63.cols, v95_64_1]) () 0)) at_stab (fun w X => ?_) ?_
 skip
 exact have H := H.ext X; d_idxC underlying179 sizeOf182 rfl rfl (rc_64.at H.zin) c62.1 (hc_64 c62) hcs_64
 refine f_op [95] rfl rfl rfl rfl false (.rel (fun w' v' => At w' v' (fun _ : Unit => [.bool z63.area, .int .i64 z63.cols, v95_64_1]) () 2)) at_stab (fun w X => ?_) ?_
 intro v95 h95
 exact d_field rfl h95 underlying182 rfl sizeOf63 rfl rfl
 refine f_op [96] rfl rfl rfl rfl false (.eq (v95_64_1)) trivial (fun w X => ?_) ?_
 intro v96 h96
 exact (v_loadAt1 rfl h96 isAgg63 rfl).doesF
 refine F1 rfl (fun w X => have H := H.ext X; v_len underlying63 rfl (r95_64_1.at H.zin)) ?_
 refine fcps 1 rfl ?_
 obtain ⟨c65, hS⟩ := ck hS
 obtain ⟨z66, e66, hS⟩ := bv hS
 have q_67 := rp1.gel ⟨_, argEnc_dflt⟩ 0
 rw [← e66] at q_67
 obtain ⟨css_67, cl_67, rc_67, hc_67, v100_67_1, hcs_67, r100_67_1⟩ := q_67
 refine f_op [99] rfl rfl rfl rfl false (.rel (fun w' v' => At w' v' (fun _ : Unit => [.bool z66.area, .int .i64 z66.cols, v100_67_1]) () 0)) at_stab (fun w X => ?_) ?_
 skip
 exact have H := H.ext X; d_idxC underlying179 sizeOf182 rfl rfl (rc_67.at H.zin) c65.1 (hc_67 c65) hcs_67
 refine f_op [100] rfl rfl rfl rfl false (.rel (fun w' v' => At w' v' (fun _ : Unit => [.bool z66.area, .int .i64 z66.cols, v100_67_1]) () 1)) at_stab (fun w X => ?_) ?_
 intro v100 h100
 exact d_field rfl h100 underlying182 rfl sizeOf3 rfl rfl
 refine f_op [101] rfl rfl rfl rfl false (.eq (.int .i64 z66.cols)) trivial (fun w X => ?_) ?_
 intro v101 h101
 exact (v_loadAt1 rfl h101 isAgg3 rfl).doesF
 refine fI hS rfl (fun w X => v_max underlying3 rfl rfl) fun z68 e68 hS => ?_
 obtain ⟨c69, hS⟩ := ck hS
 refine fI hS rfl (fun w X => v_quow rfl rfl c69) fun z70 e70 hS => ?_
 refine fC hS rfl (fun y71 f71 w X => dC call55 (num_Of_ok f71 :)) fun y71 hS => ?_
 refine fcps 2 rfl ?_
 refine fC hS rfl (fun y72 f72 w X => dC call116 (value_Made_ok f72 :)) fun y72 hS => ?_
 refine fE [4, 108] [_, _] H fun a w X H h => ?_
 refine zS h H 0 sizeOf26 [_, _, _] [_, _, _] [_] fun w H => ?_
 refine cz k ?_
 cases hS
 refine r1 hr h rfl (rvA H 0 isAgg26 sizeOf26 [_, _, _]) ⟨rfl, H.out⟩
 refine rg fun K k => ?_
 refine sB h hS rfl (v_seq rfl rfl) fun z73 e73 hS a h => ?_
 refine cps 1 h rfl fun a h => ?_
 refine cN k h [0, 1, 4, 9, 109] [_, _, _, _, _] fun h => ?_
 refine cI h hS rfl (fun ec74 hS => ?_) fun ec74 hS => ?_
 refine rg fun K k => ?_
 refine cps 1 h rfl fun a h => ?_
 obtain ⟨c75, hS⟩ := ck hS
 obtain ⟨z76, e76, hS⟩ := bv hS
 have q_77 := rp1.gel ⟨_, argEnc_dflt⟩ 0
 rw [← e76] at q_77
 obtain ⟨css_77, cl_77, rc_77, hc_77, v112_77_1, hcs_77, r112_77_1⟩ := q_77
 refine st_idxC h underlying179 sizeOf182 rfl rfl (rc_77.at H.zin) c75.1 (hc_77 c75) hcs_77 rfl fun a v112 A112 h => ?_
 refine st_fieldAt h rfl A112 underlying182 rfl sizeOf3 rfl rfl rfl fun a v113 A113 h => ?_
 refine s1 h rfl (v_loadAt1 rfl A113 isAgg3 rfl) fun a h => ?_
 refine sC h H hS rfl (fun y78 f78 => dC call55 (num_Of_ok f78 :)) fun y78 hS w X H a h => ?_
 have A112 := At.ext A112 X
 have A113 := At.ext A113 X
 refine cps 2 h rfl fun a h => ?_
 refine sC h H hS rfl (fun y79 f79 => dC call116 (value_Made_ok f79 :)) fun y79 hS w X H a h => ?_
 have A112 := At.ext A112 X
 have A113 := At.ext A113 X
 refine zS h H 0 sizeOf26 [_, _, _] [_, _, _] [_] fun w H => ?_
 refine cN k h [4] [_] fun h => ?_
 cases hS
 refine r1 hr h rfl (rvA H 0 isAgg26 sizeOf26 [_, _, _]) ⟨rfl, H.out⟩
 refine rg fun K k => ?_
 refine sB h hS rfl (v_seq rfl rfl) fun z80 e80 hS a h => ?_
 refine cps 1 h rfl fun a h => ?_
 refine cz k ?_
 refine cI h hS rfl (fun ec81 hS => ?_) fun ec81 hS => ?_
 refine rg fun K k => ?_
 refine sC h H hS rfl (fun y82 f82 => dC call21 (value_Fail_ok f82 :)) fun y82 hS w X H a h => ?_
 refine zS h H 0 sizeOf26 [_, _, _] [_, _, _] [_] fun w H => ?_
 refine cN k h [4] [_] fun h => ?_
 cases hS
 refine r1 hr h rfl (rvA H 0 isAgg26 sizeOf26 [_, _, _]) ⟨rfl, H.out⟩
 refine rg fun K k => ?_
 refine sB h hS rfl (v_seq rfl rfl) fun z83 e83 hS a h => ?_
 refine cps 1 h rfl fun a h => ?_
 refine cN k h [0, 1, 4, 9, 122] [_, _, _, _, _] fun h => ?_
 refine cI h hS rfl (fun ec84 hS => ?_) fun ec84 hS => ?_
 exact nomatch hS
 refine rg fun K k => ?_
 refine sB h hS rfl (v_seq rfl rfl) fun z88 e88 hS a h => ?_
 refine cps 1 h rfl fun a h => ?_
 refine cz k ?_
 refine cI h hS rfl (fun ec89 hS => ?_) fun ec89 hS => ?_
 exact nomatch hS
 exact nomatch hS
 refine rg fun K k => ?_
 refine sB h hS rfl (v_seq rfl rfl) fun z96 e96 hS a h => ?_
 refine cps 1 h rfl fun a h => ?_
 refine cz k ?_
 refine cI h hS rfl (fun ec97 hS => ?_) fun ec97 hS => ?_
 exact c_skip (ex2 ⟨hS, h.to, H, rp1⟩)
 refine c_lregion ?_
 refine sB h hS rfl (v_seq rfl rfl) fun z98 e98 hS a h => ?_
 refine cps 1 h rfl fun a h => ?_
 refine c_lnil ?_
 exact ex2 ⟨hS, h.to, H, rp1⟩
theorem funcs_Apply_ok {x0 : Int} {x1 : List (Arg)} {res : V} {w0 : World} (hS : funcs_Apply x0 x1 = some res) {xv1 : Value} (rp1 : RdN (hz w0) xv1 argEnc x1) (hG : GW w0) : Calls Tryz.prog 123 [.int .i64 x0, xv1].toArray w0 (Ret fun v w => v = .agg #[.int .i64 res.k, .int .i64 res.n, S res.s] ∧ Ext w0 w) := by
 refine en func123 [0, 1] [_, _] fun Q a Zi Z hzs H h hr => ?_
 have rp1 := rp1.sub hzs
 clear hzs
 unfold funcs_Apply at hS
 refine rg fun K k => ?_
 refine zA h H zeroValue26 [_, _, _] (fun x => [x]) fun a p1 w X H h => ?_
 refine cz k ?_
 refine rg fun K k => ?_
 refine cps 1 h rfl fun a h => ?_
 refine sC h H hS rfl (fun y2 f2 => dC call79 (tree_Name_ok f2 (hG.ext H.out) :)) fun y2 hS w X H a h => ?_
 refine cps 1 h rfl fun a h => ?_
 refine cz k ?_
 refine sq ?_
 refine rg fun K k => ?_
 refine cps 2 h rfl fun a h => ?_
 refine s1 h rfl (v_lenN underlying179 rfl rp1 H.zin) fun a h => ?_
 refine sC h H hS rfl (fun y4 f4 => dC call49 (tree_Fits_ok f4 (hG.ext H.out) :)) fun y4 hS w X H a h => ?_
 refine sB h hS rfl (v_not rfl) fun z5 e5 hS a h => ?_
 refine cN k h [1, 4, 5, 19] [_, _, _, _] fun h => ?_
 refine cI h hS rfl (fun ec6 hS => ?_) fun ec6 hS => ?_
 refine rg fun K k => ?_
 refine sC h H hS rfl (fun y7 f7 => dC call21 (value_Fail_ok f7 :)) fun y7 hS w X H a h => ?_
 refine zS h H 0 sizeOf26 [_, _, _] [_, _, _] [_] fun w H => ?_
 refine cN k h [4] [_] fun h => ?_
 cases hS
 refine r1 hr h rfl (rvA H 0 isAgg26 sizeOf26 [_, _, _]) ⟨rfl, H.out⟩
 refine c_skip ?_
 refine sq ?_
 refine rg fun K k => ?_
 refine cps 1 h rfl fun a h => ?_
 refine cz k ?_
 refine lb ?_
 obtain ⟨J11, eJ11, hS⟩ := bv hS
 refine sqJ (fun a w => ∃ (Z : FZ) (s11 : Bool), J11 s11 = some res ∧ Fr 129 [(1, xv1), (4, .pointer (some ⟨p1, 0, none⟩)), (5, S y2), (21, S y2), (22, .bool s11)] a ∧ HZ w0 Zi Z [.blk p1 (Cel [.int .i64 0, .int .i64 0, S []] 26)] w ∧ RdN Z xv1 argEnc x1) ?_ ?_
 rintro a w ⟨Z, s11, hS, h, H, rp1⟩
 subst eJ11
 refine cI h hS rfl (fun ec12 hS => ?_) fun ec12 hS => ?_
 exact nomatch hS
 obtain ⟨J14, eJ14, hS⟩ := bv hS
 refine sqJ (fun a w => ∃ (Z : FZ) (s14 : Bool), J14 s14 = some res ∧ Fr 129 [(1, xv1), (4, .pointer (some ⟨p1, 0, none⟩)), (5, S y2), (21, S y2), (61, .bool s14)] a ∧ HZ w0 Zi Z [.blk p1 (Cel [.int .i64 0, .int .i64 0, S []] 26)] w ∧ RdN Z xv1 argEnc x1) ?_ ?_
 rintro a w ⟨Z, s14, hS, h, H, rp1⟩
 subst eJ14
 refine cI h hS rfl (fun ec15 hS => ?_) fun ec15 hS => ?_
 exact nomatch hS
 obtain ⟨J17, eJ17, hS⟩ := bv hS
 refine sqJ (fun a w => ∃ (Z : FZ) (s17 : Bool), J17 s17 = some res ∧ Fr 129 [(1, xv1), (4, .pointer (some ⟨p1, 0, none⟩)), (5, S y2), (95, .bool s17)] a ∧ HZ w0 Zi Z [.blk p1 (Cel [.int .i64 0, .int .i64 0, S []] 26)] w ∧ RdN Z xv1 argEnc x1) ?_ ?_
 rintro a w ⟨Z, s17, hS, h, H, rp1⟩
 subst eJ17
 refine cI h hS rfl (fun ec18 hS => ?_) fun ec18 hS => ?_
 exact nomatch hS
 refine c_skip ?_
 refine rg fun K k => ?_
 refine cps 2 h rfl fun a h => ?_
 refine sC h H hS rfl (fun y22 f22 => dC call170 (funcs_list_ok f22 (rp1.hz H.zin) :)) fun y22 hS w X H a h => ?_
 refine zS h H 0 sizeOf26 [_, _, _] [_, _, _] [_] fun w H => ?_
 refine cN k h [4] [_] fun h => ?_
 cases hS
 refine r1 hr h rfl (rvA H 0 isAgg26 sizeOf26 [_, _, _]) ⟨rfl, H.out⟩
 refine rg fun K k => ?_
 refine sB h hS rfl (v_seq rfl rfl) fun z23 e23 hS a h => ?_
 refine cps 1 h rfl fun a h => ?_
 refine cz k ?_
 refine cI h hS rfl (fun ec24 hS => ?_) fun ec24 hS => ?_
 exact c_skip (ex2 ⟨hS, h.to, H, rp1⟩)
 refine rg fun K k => ?_
 refine sB h hS rfl (v_seq rfl rfl) fun z25 e25 hS a h => ?_
 refine cps 1 h rfl fun a h => ?_
 refine cz k ?_
 refine cI h hS rfl (fun ec26 hS => ?_) fun ec26 hS => ?_
 exact c_skip (ex2 ⟨hS, h.to, H, rp1⟩)
 refine rg fun K k => ?_
 refine sB h hS rfl (v_seq rfl rfl) fun z27 e27 hS a h => ?_
 refine cps 1 h rfl fun a h => ?_
 refine cN k h [1, 4, 5, 21, 95] [_, _, _, _, _] fun h => ?_
 refine cI h hS rfl (fun ec28 hS => ?_) fun ec28 hS => ?_
 exact c_skip (ex2 ⟨hS, h.to, H, rp1⟩)
 refine c_lregion ?_
 refine sB h hS rfl (v_seq rfl rfl) fun z29 e29 hS a h => ?_
 refine cps 1 h rfl fun a h => ?_
 refine c_lnil ?_
 exact ex2 ⟨hS, h.to, H, rp1⟩
 refine rg fun K k => ?_
 refine sB h hS rfl (v_seq rfl rfl) fun z30 e30 hS a h => ?_
 refine cps 1 h rfl fun a h => ?_
 refine cz k ?_
 refine cI h hS rfl (fun ec31 hS => ?_) fun ec31 hS => ?_
 exact c_skip (ex2 ⟨hS, h.to, H, rp1⟩)
 refine rg fun K k => ?_
 refine sB h hS rfl (v_seq rfl rfl) fun z32 e32 hS a h => ?_
 refine cps 1 h rfl fun a h => ?_
 refine cz k ?_
 refine cI h hS rfl (fun ec33 hS => ?_) fun ec33 hS => ?_
 exact c_skip (ex2 ⟨hS, h.to, H, rp1⟩)
 refine rg fun K k => ?_
 refine sB h hS rfl (v_seq rfl rfl) fun z34 e34 hS a h => ?_
 refine cps 1 h rfl fun a h => ?_
 refine cN k h [1, 4, 5, 21, 61] [_, _, _, _, _] fun h => ?_
 refine cI h hS rfl (fun ec35 hS => ?_) fun ec35 hS => ?_
 exact c_skip (ex2 ⟨hS, h.to, H, rp1⟩)
 refine rg fun K k => ?_
 refine sB h hS rfl (v_seq rfl rfl) fun z36 e36 hS a h => ?_
 refine cps 1 h rfl fun a h => ?_
 refine cz k ?_
 refine cI h hS rfl (fun ec37 hS => ?_) fun ec37 hS => ?_
 exact c_skip (ex2 ⟨hS, h.to, H, rp1⟩)
 refine rg fun K k => ?_
 refine sB h hS rfl (v_seq rfl rfl) fun z38 e38 hS a h => ?_
 refine cps 1 h rfl fun a h => ?_
 refine cz k ?_
 refine cI h hS rfl (fun ec39 hS => ?_) fun ec39 hS => ?_
 exact c_skip (ex2 ⟨hS, h.to, H, rp1⟩)
 refine rg fun K k => ?_
 refine sB h hS rfl (v_seq rfl rfl) fun z40 e40 hS a h => ?_
 refine cps 1 h rfl fun a h => ?_
 refine cz k ?_
 refine cI h hS rfl (fun ec41 hS => ?_) fun ec41 hS => ?_
 exact c_skip (ex2 ⟨hS, h.to, H, rp1⟩)
 refine rg fun K k => ?_
 refine sB h hS rfl (v_seq rfl rfl) fun z42 e42 hS a h => ?_
 refine cps 1 h rfl fun a h => ?_
 refine cN k h [1, 4, 5, 21, 61] [_, _, _, _, _] fun h => ?_
 refine cI h hS rfl (fun ec43 hS => ?_) fun ec43 hS => ?_
 exact c_skip (ex2 ⟨hS, h.to, H, rp1⟩)
 refine rg fun K k => ?_
 refine sB h hS rfl (v_seq rfl rfl) fun z44 e44 hS a h => ?_
 refine cps 1 h rfl fun a h => ?_
 refine cz k ?_
 refine cI h hS rfl (fun ec45 hS => ?_) fun ec45 hS => ?_
 exact c_skip (ex2 ⟨hS, h.to, H, rp1⟩)
 refine c_lregion ?_
 refine sB h hS rfl (v_seq rfl rfl) fun z46 e46 hS a h => ?_
 refine cps 1 h rfl fun a h => ?_
 refine c_lnil ?_
 exact ex2 ⟨hS, h.to, H, rp1⟩
 refine rg fun K k => ?_
 refine sB h hS rfl (v_seq rfl rfl) fun z47 e47 hS a h => ?_
 refine cps 1 h rfl fun a h => ?_
 refine cz k ?_
 refine cI h hS rfl (fun ec48 hS => ?_) fun ec48 hS => ?_
 exact c_skip (ex2 ⟨hS, h.to, H, rp1⟩)
 refine rg fun K k => ?_
 refine sB h hS rfl (v_seq rfl rfl) fun z49 e49 hS a h => ?_
 refine cps 1 h rfl fun a h => ?_
 refine cz k ?_
 refine cI h hS rfl (fun ec50 hS => ?_) fun ec50 hS => ?_
 exact c_skip (ex2 ⟨hS, h.to, H, rp1⟩)
 refine rg fun K k => ?_
 refine sB h hS rfl (v_seq rfl rfl) fun z51 e51 hS a h => ?_
 refine cps 1 h rfl fun a h => ?_
 refine cN k h [1, 4, 5, 21, 22] [_, _, _, _, _] fun h => ?_
 refine cI h hS rfl (fun ec52 hS => ?_) fun ec52 hS => ?_
 exact c_skip (ex2 ⟨hS, h.to, H, rp1⟩)
 refine rg fun K k => ?_
 refine sB h hS rfl (v_seq rfl rfl) fun z53 e53 hS a h => ?_
 refine cps 1 h rfl fun a h => ?_
 refine cz k ?_
 refine cI h hS rfl (fun ec54 hS => ?_) fun ec54 hS => ?_
 exact c_skip (ex2 ⟨hS, h.to, H, rp1⟩)
 refine rg fun K k => ?_
 refine sB h hS rfl (v_seq rfl rfl) fun z55 e55 hS a h => ?_
 refine cps 1 h rfl fun a h => ?_
 refine cz k ?_
 refine cI h hS rfl (fun ec56 hS => ?_) fun ec56 hS => ?_
 exact c_skip (ex2 ⟨hS, h.to, H, rp1⟩)
 refine rg fun K k => ?_
 refine sB h hS rfl (v_seq rfl rfl) fun z57 e57 hS a h => ?_
 refine cps 1 h rfl fun a h => ?_
 refine cz k ?_
 refine cI h hS rfl (fun ec58 hS => ?_) fun ec58 hS => ?_
 exact c_skip (ex2 ⟨hS, h.to, H, rp1⟩)
 refine rg fun K k => ?_
 refine sB h hS rfl (v_seq rfl rfl) fun z59 e59 hS a h => ?_
 refine cps 1 h rfl fun a h => ?_
 refine cN k h [1, 4, 5, 21, 22] [_, _, _, _, _] fun h => ?_
 refine cI h hS rfl (fun ec60 hS => ?_) fun ec60 hS => ?_
 exact c_skip (ex2 ⟨hS, h.to, H, rp1⟩)
 refine rg fun K k => ?_
 refine sB h hS rfl (v_seq rfl rfl) fun z61 e61 hS a h => ?_
 refine cps 1 h rfl fun a h => ?_
 refine cz k ?_
 refine cI h hS rfl (fun ec62 hS => ?_) fun ec62 hS => ?_
 exact c_skip (ex2 ⟨hS, h.to, H, rp1⟩)
 refine rg fun K k => ?_
 refine sB h hS rfl (v_seq rfl rfl) fun z63 e63 hS a h => ?_
 refine cps 1 h rfl fun a h => ?_
 refine cz k ?_
 refine cI h hS rfl (fun ec64 hS => ?_) fun ec64 hS => ?_
 exact c_skip (ex2 ⟨hS, h.to, H, rp1⟩)
 refine rg fun K k => ?_
 refine sB h hS rfl (v_seq rfl rfl) fun z65 e65 hS a h => ?_
 refine cps 1 h rfl fun a h => ?_
 refine cz k ?_
 refine cI h hS rfl (fun ec66 hS => ?_) fun ec66 hS => ?_
 exact c_skip (ex2 ⟨hS, h.to, H, rp1⟩)
 refine rg fun K k => ?_
 refine sB h hS rfl (v_seq rfl rfl) fun z67 e67 hS a h => ?_
 refine cps 1 h rfl fun a h => ?_
 refine cN k h [1, 4, 5, 21, 22] [_, _, _, _, _] fun h => ?_
 refine cI h hS rfl (fun ec68 hS => ?_) fun ec68 hS => ?_
 exact c_skip (ex2 ⟨hS, h.to, H, rp1⟩)
 refine rg fun K k => ?_
 refine sB h hS rfl (v_seq rfl rfl) fun z69 e69 hS a h => ?_
 refine cps 1 h rfl fun a h => ?_
 refine cz k ?_
 refine cI h hS rfl (fun ec70 hS => ?_) fun ec70 hS => ?_
 exact c_skip (ex2 ⟨hS, h.to, H, rp1⟩)
 refine c_lregion ?_
 refine sB h hS rfl (v_seq rfl rfl) fun z71 e71 hS a h => ?_
 refine cps 1 h rfl fun a h => ?_
 refine c_lnil ?_
 exact ex2 ⟨hS, h.to, H, rp1⟩
theorem funcs_Binary_ok {x0 : Int} {x1 : V} {x2 : V} {res : V} {w0 : World} (hS : funcs_Binary x0 x1 x2 = some res) : Calls Tryz.prog 88 [.int .i64 x0, .agg #[.int .i64 x1.k, .int .i64 x1.n, S x1.s], .agg #[.int .i64 x2.k, .int .i64 x2.n, S x2.s]].toArray w0 (Ret fun v w => v = .agg #[.int .i64 res.k, .int .i64 res.n, S res.s] ∧ Ext w0 w) := by
 refine en func88 [0, 1, 2] [_, _, _] fun Q a Zi Z hzs H h hr => ?_
 clear hzs
 unfold funcs_Binary at hS
 refine rg fun K k => ?_
 refine z_box h H rfl [_, _, _] rfl rfl fun a p1 w X H h => ?_
 have H : HZ w0 _ _ [_] _ := H
 refine z_box h H rfl [_, _, _] rfl rfl fun a p2 w X H h => ?_
 have H : HZ w0 _ _ [_, _] _ := H
 refine zA h H zeroValue26 [_, _, _] (fun x => [_, _, x]) fun a p3 w X H h => ?_
 refine cz k ?_
 refine sb ?_
 refine rg fun K k => ?_
 refine cps 1 h rfl fun a h => ?_
 refine sB h hS rfl (v_ge rfl rfl) fun z5 e5 hS a h => ?_
 refine cps 1 h rfl fun a h => ?_
 refine cN k h [0, 4, 5, 6, 10] [_, _, _, _, _] fun h => ?_
 refine cI h hS rfl (fun ec6 hS => ?_) fun ec6 hS => ?_
 exact nomatch hS
 refine rg fun K k => ?_
 refine cps 1 h rfl fun a h => ?_
 refine sB h hS rfl (v_eq rfl rfl) fun z7 e7 hS a h => ?_
 refine cps 1 h rfl fun a h => ?_
 refine cz k ?_
 refine cI h hS rfl (fun ec8 hS => ?_) fun ec8 hS => ?_
 exact nomatch hS
 refine c_skip ?_
 refine cO h [0, 4, 5, 6] [_, _, _, _] fun h => ?_
 refine flT 6 h fun K k => ?_
 refine F1 rfl (fun w X => have H := H.ext X; lA H 0 isAgg26 sizeOf26 [_, _, _]) ?_
 refine fC hS rfl (fun y9 f9 w X => dC call115 (value_ToNum_ok f9 :)) fun y9 hS => ?_
 refine F1 rfl (fun w X => have H := H.ext X; lA H 1 isAgg26 sizeOf26 [_, _, _]) ?_
 refine fC hS rfl (fun y10 f10 w X => dC call115 (value_ToNum_ok f10 :)) fun y10 hS => ?_
 refine f_alloc zeroValue26 [_, _, _] rfl rfl ?_
 refine f_alloc zeroValue26 [_, _, _] rfl rfl ?_
 refine fn_ ?_
 intro a w X hR hA
 obtain ⟨_, ⟨p11, rfl, hb8⟩, _, ⟨p12, rfl, hb9⟩, h⟩ := hR.out [0, 6, 8, 9, 43, 45]
 have h : Fr 97 [(45, _), (43, _), (9, _), (8, _), (6, _), (0, _)] a := h
 have lo8 := hA.lo' h (s := 8) rfl rfl
 have lo9 := hA.lo' h (s := 9) rfl rfl
 have ne_ := hA.ne' h (s := 8) (t := 9) rfl rfl rfl rfl rfl
 have H := H.pushF2 X hb8 lo8 hb9 lo9 ne_
 have H : HZ w0 _ _ [_, _, _, _, _] _ := H
 refine zS h H 3 sizeOf26 [_, _, _] [_, _, _] [_, _, _, _, _] fun w H => ?_
 refine zS h H 4 sizeOf26 [_, _, _] [_, _, _] [_, _, _, _, _] fun w H => ?_
 refine cz k ?_
 refine sq ?_
 refine rg fun K k => ?_
 refine s1 h rfl (v_fieldAddr rfl underlying26 rfl sizeOf3 rfl rfl) fun a h => ?_
 refine s1 h rfl (l1 H 3 isAgg3) fun a h => ?_
 refine sB h hS rfl (v_eq rfl rfl) fun z14 e14 hS a h => ?_
 refine cN k h [0, 6, 8, 9, 48] [_, _, _, _, _] fun h => ?_
 refine cI h hS rfl (fun ec15 hS => ?_) fun ec15 hS => ?_
 refine rg fun K k => ?_
 refine s1 h rfl (lA H 3 isAgg26 sizeOf26 [_, _, _]) fun a h => ?_
 refine zS h H 2 sizeOf26 [_, _, _] [_, _, _] [_, _, _, _, _] fun w H => ?_
 refine cN k h [6] [_] fun h => ?_
 cases hS
 refine r1 hr h rfl (rvA H 2 isAgg26 sizeOf26 [_, _, _]) ⟨rfl, H.out⟩
 refine c_skip ?_
 refine sq ?_
 refine rg fun K k => ?_
 refine s1 h rfl (v_fieldAddr rfl underlying26 rfl sizeOf3 rfl rfl) fun a h => ?_
 refine s1 h rfl (l1 H 4 isAgg3) fun a h => ?_
 refine sB h hS rfl (v_eq rfl rfl) fun z17 e17 hS a h => ?_
 refine cz k ?_
 refine cI h hS rfl (fun ec18 hS => ?_) fun ec18 hS => ?_
 refine rg fun K k => ?_
 refine s1 h rfl (lA H 4 isAgg26 sizeOf26 [_, _, _]) fun a h => ?_
 refine zS h H 2 sizeOf26 [_, _, _] [_, _, _] [_, _, _, _, _] fun w H => ?_
 refine cN k h [6] [_] fun h => ?_
 cases hS
 refine r1 hr h rfl (rvA H 2 isAgg26 sizeOf26 [_, _, _]) ⟨rfl, H.out⟩
 refine c_skip ?_
 refine cO h [0, 6, 8, 9] [_, _, _, _] fun h => ?_
 refine sq ?_
 refine rg fun K k => ?_
 refine cps 1 h rfl fun a h => ?_
 refine cz k ?_
 refine lb ?_
 refine rg fun K k => ?_
 refine sB h hS rfl (v_eq rfl rfl) fun z21 e21 hS a h => ?_
 refine cps 1 h rfl fun a h => ?_
 refine cz k ?_
 refine cI h hS rfl (fun ec22 hS => ?_) fun ec22 hS => ?_
 refine rg fun K k => ?_
 refine s1 h rfl (v_fieldAddr rfl underlying26 rfl sizeOf2 rfl rfl) fun a h => ?_
 refine s1 h rfl (l1 H 3 isAgg2) fun a h => ?_
 refine s1 h rfl (v_fieldAddr rfl underlying26 rfl sizeOf2 rfl rfl) fun a h => ?_
 refine s1 h rfl (l1 H 4 isAgg2) fun a h => ?_
 refine sC h H hS rfl (fun y23 f23 => dC call57 (num_Add_ok f23 :)) fun y23 hS w X H a h => ?_
 refine cps 2 h rfl fun a h => ?_
 refine sC h H hS rfl (fun y24 f24 => dC call116 (value_Made_ok f24 :)) fun y24 hS w X H a h => ?_
 refine zS h H 2 sizeOf26 [_, _, _] [_, _, _] [_, _, _, _, _] fun w H => ?_
 refine cN k h [6] [_] fun h => ?_
 cases hS
 refine r1 hr h rfl (rvA H 2 isAgg26 sizeOf26 [_, _, _]) ⟨rfl, H.out⟩
 refine rg fun K k => ?_
 refine sB h hS rfl (v_eq rfl rfl) fun z25 e25 hS a h => ?_
 refine cps 1 h rfl fun a h => ?_
 refine cN k h [6, 8, 9, 54, 65] [_, _, _, _, _] fun h => ?_
 refine cI h hS rfl (fun ec26 hS => ?_) fun ec26 hS => ?_
 exact nomatch hS
 refine rg fun K k => ?_
 refine sB h hS rfl (v_eq rfl rfl) fun z27 e27 hS a h => ?_
 refine cps 1 h rfl fun a h => ?_
 refine cz k ?_
 refine cI h hS rfl (fun ec28 hS => ?_) fun ec28 hS => ?_
 refine rg fun K k => ?_
 refine s1 h rfl (v_fieldAddr rfl underlying26 rfl sizeOf2 rfl rfl) fun a h => ?_
 refine s1 h rfl (l1 H 3 isAgg2) fun a h => ?_
 refine s1 h rfl (v_fieldAddr rfl underlying26 rfl sizeOf2 rfl rfl) fun a h => ?_
 refine s1 h rfl (l1 H 4 isAgg2) fun a h => ?_
 refine sC h H hS rfl (fun y29 f29 => dC call56 (num_Mul_ok f29 :)) fun y29 hS w X H a h => ?_
 refine cps 2 h rfl fun a h => ?_
 refine sC h H hS rfl (fun y30 f30 => dC call116 (value_Made_ok f30 :)) fun y30 hS w X H a h => ?_
 refine zS h H 2 sizeOf26 [_, _, _] [_, _, _] [_, _, _, _, _] fun w H => ?_
 refine cN k h [6] [_] fun h => ?_
 cases hS
 refine r1 hr h rfl (rvA H 2 isAgg26 sizeOf26 [_, _, _]) ⟨rfl, H.out⟩
 refine c_skip ?_
 refine cO h [6, 8, 9] [_, _, _] fun h => ?_
 refine sq ?_
 refine rg fun K k => ?_
 refine s1 h rfl (v_fieldAddr rfl underlying26 rfl sizeOf2 rfl rfl) fun a h => ?_
 refine s1 h rfl (l1 H 4 isAgg2) fun a h => ?_
 refine sB h hS rfl (v_eq rfl rfl) fun z32 e32 hS a h => ?_
 refine cz k ?_
 refine cI h hS rfl (fun ec33 hS => ?_) fun ec33 hS => ?_
 refine rg fun K k => ?_
 refine sC h H hS rfl (fun y34 f34 => dC call21 (value_Fail_ok f34 :)) fun y34 hS w X H a h => ?_
 refine zS h H 2 sizeOf26 [_, _, _] [_, _, _] [_, _, _, _, _] fun w H => ?_
 refine cN k h [6] [_] fun h => ?_
 cases hS
 refine r1 hr h rfl (rvA H 2 isAgg26 sizeOf26 [_, _, _]) ⟨rfl, H.out⟩
 exact nomatch hS
theorem funcs_Bears_ok {x0 : Int} {res : Bool} {w0 : World} (hS : funcs_Bears x0 = some res) (hG : GW w0) : Calls Tryz.prog 122 [.int .i64 x0].toArray w0 (Ret fun v w => v = .bool res ∧ Ext w0 w) := by
 refine en func122 [0] [_] fun Q a Zi Z hzs H h hr => ?_
 clear hzs
 unfold funcs_Bears at hS
 refine rg fun K k => ?_
 refine cps 1 h rfl fun a h => ?_
 refine cz k ?_
 refine sq ?_
 refine rg fun K k => ?_
 refine cps 1 h rfl fun a h => ?_
 refine sC h H hS rfl (fun y2 f2 => dC call79 (tree_Name_ok f2 (hG.ext H.out) :)) fun y2 hS w X H a h => ?_
 refine cz k ?_
 refine lb ?_
 obtain ⟨J5, eJ5, hS⟩ := bv hS
 refine sqJ (fun a w => ∃ (Z : FZ) (s5 : Bool), J5 s5 = some res ∧ Fr 16 [(5, .bool s5)] a ∧ HZ w0 Zi Z [] w) ?_ ?_
 rintro a w ⟨Z, s5, hS, h, H⟩
 subst eJ5
 refine cI h hS rfl (fun ec6 hS => ?_) fun ec6 hS => ?_
 refine rg fun K k => ?_
 refine cps 1 h rfl fun a h => ?_
 refine cz k ?_
 cases hS
 refine r1 hr h rfl rfl ⟨rfl, H.out⟩
 refine c_skip ?_
 refine rg fun K k => ?_
 refine cps 1 h rfl fun a h => ?_
 refine cz k ?_
 cases hS
 refine r1 hr h rfl rfl ⟨rfl, H.out⟩
 refine rg fun K k => ?_
 refine sB h hS rfl (v_seq rfl rfl) fun z7 e7 hS a h => ?_
 refine cps 1 h rfl fun a h => ?_
 refine cN k h [4, 5] [_, _] fun h => ?_
 refine cI h hS rfl (fun ec8 hS => ?_) fun ec8 hS => ?_
 exact c_skip (ex2 ⟨hS, h.to, H⟩)
 refine rg fun K k => ?_
 refine sB h hS rfl (v_seq rfl rfl) fun z9 e9 hS a h => ?_
 refine cps 1 h rfl fun a h => ?_
 refine cz k ?_
 refine cI h hS rfl (fun ec10 hS => ?_) fun ec10 hS => ?_
 exact c_skip (ex2 ⟨hS, h.to, H⟩)
 refine rg fun K k => ?_
 refine sB h hS rfl (v_seq rfl rfl) fun z11 e11 hS a h => ?_
 refine cps 1 h rfl fun a h => ?_
 refine cz k ?_
 refine cI h hS rfl (fun ec12 hS => ?_) fun ec12 hS => ?_
 exact c_skip (ex2 ⟨hS, h.to, H⟩)
 refine rg fun K k => ?_
 refine sB h hS rfl (v_seq rfl rfl) fun z13 e13 hS a h => ?_
 refine cps 1 h rfl fun a h => ?_
 refine cz k ?_
 refine cI h hS rfl (fun ec14 hS => ?_) fun ec14 hS => ?_
 exact c_skip (ex2 ⟨hS, h.to, H⟩)
 refine rg fun K k => ?_
 refine sB h hS rfl (v_seq rfl rfl) fun z15 e15 hS a h => ?_
 refine cps 1 h rfl fun a h => ?_
 refine cN k h [4, 5] [_, _] fun h => ?_
 refine cI h hS rfl (fun ec16 hS => ?_) fun ec16 hS => ?_
 exact c_skip (ex2 ⟨hS, h.to, H⟩)
 refine rg fun K k => ?_
 refine sB h hS rfl (v_seq rfl rfl) fun z17 e17 hS a h => ?_
 refine cps 1 h rfl fun a h => ?_
 refine cz k ?_
 refine cI h hS rfl (fun ec18 hS => ?_) fun ec18 hS => ?_
 exact c_skip (ex2 ⟨hS, h.to, H⟩)
 refine rg fun K k => ?_
 refine sB h hS rfl (v_seq rfl rfl) fun z19 e19 hS a h => ?_
 refine cps 1 h rfl fun a h => ?_
 refine cz k ?_
 refine cI h hS rfl (fun ec20 hS => ?_) fun ec20 hS => ?_
 exact c_skip (ex2 ⟨hS, h.to, H⟩)
 refine rg fun K k => ?_
 refine sB h hS rfl (v_seq rfl rfl) fun z21 e21 hS a h => ?_
 refine cps 1 h rfl fun a h => ?_
 refine cz k ?_
 refine cI h hS rfl (fun ec22 hS => ?_) fun ec22 hS => ?_
 exact c_skip (ex2 ⟨hS, h.to, H⟩)
 refine rg fun K k => ?_
 refine sB h hS rfl (v_seq rfl rfl) fun z23 e23 hS a h => ?_
 refine cps 1 h rfl fun a h => ?_
 refine cN k h [4, 5] [_, _] fun h => ?_
 refine cI h hS rfl (fun ec24 hS => ?_) fun ec24 hS => ?_
 exact c_skip (ex2 ⟨hS, h.to, H⟩)
 refine c_lregion ?_
 refine sB h hS rfl (v_seq rfl rfl) fun z25 e25 hS a h => ?_
 refine cps 1 h rfl fun a h => ?_
 refine c_lnil ?_
 exact ex2 ⟨hS, h.to, H⟩
end Go.Proofs.YtcecjdnkcbfhlaaGreatDoor
