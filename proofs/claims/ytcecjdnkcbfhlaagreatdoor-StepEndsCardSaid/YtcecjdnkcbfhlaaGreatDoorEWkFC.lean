/- Joined texts. -/
import Derived.Test.YtcecjdnkcbfhlaaGreatDoorES0
import Derived.Test.YtcecjdnkcbfhlaaGreatDoorEWkFB
set_option linter.unusedSimpArgs false
set_option linter.unusedVariables false
set_option linter.unusedSectionVars false
namespace Go.Proofs.YtcecjdnkcbfhlaaGreatDoor
open Go.Stp Go.RowKit Go.ValP Go.Sp _root_.Go.Proofs.Tryz
set_option maxRecDepth 100000
theorem bits_Div64_ok {x0:Int} {x1:Int} {x2:Int} {res:Int × Int} {w0:World} (hS:bits_Div64 x0 x1 x2=some res):Calls Tryz.prog 114 [.int .u64 x0,.int .u64 x1,.int .u64 x2].toArray w0 (Ret fun v w=>v=.tuple #[.int .u64 res.1,.int .u64 res.2]∧Ext w0 w):=by
 refine en func114 [0,1,2] O3 fun Q a Zi Z hzs H h hr=>?_
 clear hzs
 unfold bits_Div64 at hS
 refine rg fun K k=>cps 2 h rfl fun a h=>cz k ?_
 obtain ⟨J2,eJ2,hS⟩:=bv hS
 refine sqJ (fun a w=>∃ (Z:FZ) (s2:Unit),J2 s2=some res∧Fr 135 [(0,.int .u64 x0),(1,.int .u64 x1),(2,.int .u64 x2)] a∧HZ w0 Zi Z [] w) ?_ ?_
 rintro a w ⟨Z,s2,hS,h,H⟩
 subst eJ2
 obtain ⟨J4,eJ4,hS⟩:=bv hS
 refine sqJ (fun a w=>∃ (Z:FZ) (s4:Unit),J4 s4=some res∧Fr 135 [(0,.int .u64 x0),(1,.int .u64 x1),(2,.int .u64 x2)] a∧HZ w0 Zi Z [] w) ?_ ?_
 rintro a w ⟨Z,s4,hS,h,H⟩
 subst eJ4
 refine sq<|rg fun K k=>cps 1 h rfl fun a h=>sB h hS rfl (v_eq rfl rfl) fun z6 e6 hS a h=>cz k<|cI h hS rfl (fun ec7 hS=>?_) fun ec7 hS=>?_
 refine fl h ?_
 refine fcps 2 rfl ?_
 obtain ⟨c8,hS⟩:=ck hS
 refine fI hS rfl (fun w X=>v_quow rfl rfl c8) fun z9 e9 hS=>?_
 refine fcps 2 rfl ?_
 obtain ⟨c10,hS⟩:=ck hS
 refine fI hS rfl (fun w X=>v_rem rfl rfl c10) fun z11 e11 hS=>?_
 refine fcps 2 rfl ?_
 refine fE [6,7] O2 H fun a w X H h=>?_
 cases hS
 refine r2 hr h rfl rfl rfl ⟨rfl,H.out⟩
 refine c_skip<|rg fun K k=>cps 1 h rfl fun a h=>?_
 obtain ⟨c13,hS⟩:=ck hS
 obtain ⟨z14,e14,hS⟩:=bv hS
 refine st2v (T:=Ext) (V:=.int .i64 z14) h rfl rfl rfl ((by rw [e14];exact dC call157 (lib_lz64 c13))) fun w X a h=>?_
 have H:=H.ext X
 refine sI h hS rfl (v_convInt (by rw [U3];rfl) underlying68 rfl rfl) fun z15 e15 hS a h=>cps 1 h rfl fun a h=>cN k h [0,1,2,8] O4 fun h=>?_
 refine rg fun K k=>cps 2 h rfl fun a h=>?_
 obtain ⟨c16,hS⟩:=ck hS
 refine sI h hS rfl (v_shl rfl rfl c16) fun z17 e17 hS a h=>cps 1 h rfl fun a h=>cz k<|rg fun K k=>cps 1 h rfl fun a h=>?_
 obtain ⟨c18,hS⟩:=ck hS
 refine sI h hS rfl (v_shr rfl rfl c18) fun z19 e19 hS a h=>cps 1 h rfl fun a h=>cN k h [0,1,2,8,9] O5 fun h=>?_
 refine rg fun K k=>cps 1 h rfl fun a h=>sI h hS rfl (v_bits_and rfl rfl) fun z20 e20 hS a h=>cps 1 h rfl fun a h=>cz k<|rg fun K k=>cps 2 h rfl fun a h=>?_
 obtain ⟨c21,hS⟩:=ck hS
 refine sI h hS rfl (v_shl rfl rfl c21) fun z22 e22 hS a h=>cps 2 h rfl fun a h=>sI h hS rfl (v_subw rfl rfl) fun z23 e23 hS a h=>?_
 obtain ⟨c24,hS⟩:=ck hS
 refine sI h hS rfl (v_shr rfl rfl c24) fun z25 e25 hS a h=>sI h hS rfl (v_bits_or rfl rfl) fun z26 e26 hS a h=>cps 1 h rfl fun a h=>cN k h [1,2,8,9,10,11] O6 fun h=>?_
 refine rg fun K k=>cps 2 h rfl fun a h=>?_
 obtain ⟨c27,hS⟩:=ck hS
 refine sI h hS rfl (v_shl rfl rfl c27) fun z28 e28 hS a h=>cps 1 h rfl fun a h=>cN k h [2,8,9,10,11,12] O6 fun h=>?_
 refine rg fun K k=>cps 1 h rfl fun a h=>?_
 obtain ⟨c29,hS⟩:=ck hS
 refine sI h hS rfl (v_shr rfl rfl c29) fun z30 e30 hS a h=>cps 1 h rfl fun a h=>cz k<|rg fun K k=>cps 1 h rfl fun a h=>sI h hS rfl (v_bits_and rfl rfl) fun z31 e31 hS a h=>cps 1 h rfl fun a h=>cN k h [2,8,9,10,11,13,14] O7 fun h=>?_
 refine rg fun K k=>cps 2 h rfl fun a h=>?_
 obtain ⟨c32,hS⟩:=ck hS
 refine sI h hS rfl (v_quow rfl rfl c32) fun z33 e33 hS a h=>cps 1 h rfl fun a h=>cz k<|rg fun K k=>cps 3 h rfl fun a h=>sI h hS rfl (v_mulw rfl rfl) fun z34 e34 hS a h=>sI h hS rfl (v_subw rfl rfl) fun z35 e35 hS a h=>cps 1 h rfl fun a h=>cN k h [2,8,9,10,11,13,14,15,16] O9 fun h=>?_
 obtain ⟨J37,eJ37,hS⟩:=bv hS
 refine sbJ (fun a w=>∃ (Z:FZ) (s37:Int),J37 s37=some res∧Fr 135 [(2,.int .u64 z17),(8,.int .u64 z15),(9,.int .u64 z19),(10,.int .u64 z20),(11,.int .u64 z26),(13,.int .u64 z30),(14,.int .u64 z31),(15,.int .u64 s37)] a∧HZ w0 Zi Z [] w) ?_ ?_
 rintro a w ⟨Z,s37,hS,h,H⟩
 subst eJ37
 refine rg fun K k=>cps 1 h rfl fun a h=>sI h hS rfl (v_mulw rfl rfl) fun z38 e38 hS a h=>cps 1 h rfl fun a h=>sI h hS rfl (v_addw rfl rfl) fun z39 e39 hS a h=>cps 2 h rfl fun a h=>sI h hS rfl (v_mulw rfl rfl) fun z40 e40 hS a h=>sI h hS rfl (v_subw rfl rfl) fun z41 e41 hS a h=>cps 1 h rfl fun a h=>cN k h [2,8,9,10,14,15,17] O7 fun h=>?_
 refine rg fun K k=>cps 2 h rfl fun a h=>?_
 obtain ⟨c42,hS⟩:=ck hS
 refine sI h hS rfl (v_quow rfl rfl c42) fun z43 e43 hS a h=>cps 1 h rfl fun a h=>cz k<|rg fun K k=>cps 3 h rfl fun a h=>sI h hS rfl (v_mulw rfl rfl) fun z44 e44 hS a h=>sI h hS rfl (v_subw rfl rfl) fun z45 e45 hS a h=>cps 1 h rfl fun a h=>cN k h [2,8,9,10,14,15,16,17,18] O9 fun h=>?_
 obtain ⟨J47,eJ47,hS⟩:=bv hS
 refine sbJ (fun a w=>∃ (Z:FZ) (s47:Int),J47 s47=some res∧Fr 135 [(2,.int .u64 z17),(8,.int .u64 z15),(14,.int .u64 z31),(15,.int .u64 s37),(17,.int .u64 z41),(18,.int .u64 s47)] a∧HZ w0 Zi Z [] w) ?_ ?_
 rintro a w ⟨Z,s47,hS,h,H⟩
 subst eJ47
 refine rg fun K k=>cps 1 h rfl fun a h=>sI h hS rfl (v_mulw rfl rfl) fun z48 e48 hS a h=>cps 1 h rfl fun a h=>sI h hS rfl (v_addw rfl rfl) fun z49 e49 hS a h=>cps 1 h rfl fun a h=>sI h hS rfl (v_mulw rfl rfl) fun z50 e50 hS a h=>cps 1 h rfl fun a h=>sI h hS rfl (v_addw rfl rfl) fun z51 e51 hS a h=>cps 2 h rfl fun a h=>sI h hS rfl (v_mulw rfl rfl) fun z52 e52 hS a h=>sI h hS rfl (v_subw rfl rfl) fun z53 e53 hS a h=>cps 1 h rfl fun a h=>?_
 obtain ⟨c54,hS⟩:=ck hS
 refine sI h hS rfl (v_shr rfl rfl c54) fun z55 e55 hS a h=>cps 2 h rfl fun a h=>cN k h [6,7] O2 fun h=>?_
 cases hS
 refine r2 hr h rfl rfl rfl ⟨rfl,H.out⟩
 obtain ⟨B56,eB56,hS⟩:=bv hS
 refine lpJ (fun mu_ a w=>∃ (Z:FZ) (s56:Int × Int),loopF B56 mu_ s56=some res∧Fr 135 [(2,.int .u64 z17),(8,.int .u64 z15),(9,.int .u64 z19),(10,.int .u64 z20),(14,.int .u64 z31),(15,.int .u64 s37),(16,.int .u64 s56.1),(17,.int .u64 z41),(18,.int .u64 s56.2)] a∧HZ w0 Zi Z [] w) KK ⟨_,_,hS,h.to,H⟩ ?_
 rintro mu_ a w ⟨Z,s56,hS,h,H⟩
 obtain ⟨mu_,rfl,n56,en56,hS⟩:=lpX eB56 hS
 refine sq<|rg fun K k=>cps 1 h rfl fun a h=>sB h hS rfl (v_ge rfl rfl) fun z59 e59 hS a h=>cps 1 h rfl fun a h=>st_g h rfl rfl (gF rfl) rfl rfl (fun e0=>v_move rfl) fun a h=>?_
 refine st_g h rfl rfl (gF rfl) rfl rfl (fun e0=>v_move rfl) fun a h=>?_
 obtain ⟨z60,e60,hS⟩:=bv hS
 refine st_g h rfl rfl (gF rfl) rfl rfl (fun e0=>vI e60 (v_mulw (eg e0 rfl) (eg e0 rfl))) fun a h=>?_
 refine st_g h rfl rfl (gF rfl) rfl rfl (fun e0=>v_move rfl) fun a h=>?_
 obtain ⟨z61,e61,hS⟩:=bv hS
 refine st_g h rfl rfl (gF rfl) rfl rfl (fun e0=>vI e61 (v_mulw rfl (eg e0 rfl))) fun a h=>?_
 refine st_g h rfl rfl (gF rfl) rfl rfl (fun e0=>v_move rfl) fun a h=>?_
 obtain ⟨z62,e62,hS⟩:=bv hS
 refine st_g h rfl rfl (gF rfl) rfl rfl (fun e0=>vI e62 (v_addw (eg e0 rfl) (eg e0 rfl))) fun a h=>?_
 obtain ⟨z63,e63,hS⟩:=bv hS
 refine st_g h rfl rfl (gF rfl) rfl rfl (fun e0=>vB e63 (v_gt (eg e0 rfl) (eg e0 rfl))) fun a h=>?_
 refine sB h hS rfl (v_or rfl rfl) fun z64 e64 hS a h=>cN k h [2,8,9,10,14,15,16,17,18,113] O10 fun h=>?_
 refine cI h hS rfl (fun ec65 hS=>?_) fun ec65 hS=>?_
 refine c_skip<|lb<|rg fun K k=>cps 1 h rfl fun a h=>sI h hS rfl (v_subw rfl rfl) fun z67 e67 hS a h=>cps 1 h rfl fun a h=>cz k<|rg fun K k=>cps 2 h rfl fun a h=>sI h hS rfl (v_addw rfl rfl) fun z68 e68 hS a h=>cps 1 h rfl fun a h=>cN k h [2,8,9,10,14,15,16,17,18] O9 fun h=>?_
 refine rg fun K k=>cps 1 h rfl fun a h=>sB h hS rfl (v_ge rfl rfl) fun z69 e69 hS a h=>cz k<|cI h hS rfl (fun ec70 hS=>?_) fun ec70 hS=>?_
 exact c_exit (ex2 ⟨hS,h.to,H⟩)
 exact c_skip (exL (ex2 ⟨lpN en56 hS,h.to,H⟩))
 exact c_exit (ex2 ⟨hS,h.to,H⟩)
 obtain ⟨B71,eB71,hS⟩:=bv hS
 refine lpJ (fun mu_ a w=>∃ (Z:FZ) (s71:Int × Int),loopF B71 mu_ s71=some res∧Fr 135 [(2,.int .u64 z17),(8,.int .u64 z15),(9,.int .u64 z19),(10,.int .u64 z20),(11,.int .u64 z26),(13,.int .u64 z30),(14,.int .u64 z31),(15,.int .u64 s71.1),(16,.int .u64 s71.2)] a∧HZ w0 Zi Z [] w) KK ⟨_,_,hS,h.to,H⟩ ?_
 rintro mu_ a w ⟨Z,s71,hS,h,H⟩
 obtain ⟨mu_,rfl,n71,en71,hS⟩:=lpX eB71 hS
 refine sq<|rg fun K k=>cps 1 h rfl fun a h=>sB h hS rfl (v_ge rfl rfl) fun z74 e74 hS a h=>cps 1 h rfl fun a h=>st_g h rfl rfl (gF rfl) rfl rfl (fun e0=>v_move rfl) fun a h=>?_
 refine st_g h rfl rfl (gF rfl) rfl rfl (fun e0=>v_move rfl) fun a h=>?_
 obtain ⟨z75,e75,hS⟩:=bv hS
 refine st_g h rfl rfl (gF rfl) rfl rfl (fun e0=>vI e75 (v_mulw (eg e0 rfl) (eg e0 rfl))) fun a h=>?_
 refine st_g h rfl rfl (gF rfl) rfl rfl (fun e0=>v_move rfl) fun a h=>?_
 obtain ⟨z76,e76,hS⟩:=bv hS
 refine st_g h rfl rfl (gF rfl) rfl rfl (fun e0=>vI e76 (v_mulw rfl (eg e0 rfl))) fun a h=>?_
 refine st_g h rfl rfl (gF rfl) rfl rfl (fun e0=>v_move rfl) fun a h=>?_
 obtain ⟨z77,e77,hS⟩:=bv hS
 refine st_g h rfl rfl (gF rfl) rfl rfl (fun e0=>vI e77 (v_addw (eg e0 rfl) (eg e0 rfl))) fun a h=>?_
 obtain ⟨z78,e78,hS⟩:=bv hS
 refine st_g h rfl rfl (gF rfl) rfl rfl (fun e0=>vB e78 (v_gt (eg e0 rfl) (eg e0 rfl))) fun a h=>?_
 refine sB h hS rfl (v_or rfl rfl) fun z79 e79 hS a h=>cN k h [2,8,9,10,11,13,14,15,16,78] O10 fun h=>?_
 refine cI h hS rfl (fun ec80 hS=>?_) fun ec80 hS=>?_
 refine c_skip<|lb<|rg fun K k=>cps 1 h rfl fun a h=>sI h hS rfl (v_subw rfl rfl) fun z82 e82 hS a h=>cps 1 h rfl fun a h=>cz k<|rg fun K k=>cps 2 h rfl fun a h=>sI h hS rfl (v_addw rfl rfl) fun z83 e83 hS a h=>cps 1 h rfl fun a h=>cN k h [2,8,9,10,11,13,14,15,16] O9 fun h=>?_
 refine rg fun K k=>cps 1 h rfl fun a h=>sB h hS rfl (v_ge rfl rfl) fun z84 e84 hS a h=>cz k<|cI h hS rfl (fun ec85 hS=>?_) fun ec85 hS=>?_
 exact c_exit (ex2 ⟨hS,h.to,H⟩)
 exact c_skip (exL (ex2 ⟨lpN en71 hS,h.to,H⟩))
 exact c_exit (ex2 ⟨hS,h.to,H⟩)
 refine rg fun K k=>cps 2 h rfl fun a h=>sB h hS rfl (v_le rfl rfl) fun z86 e86 hS a h=>cz k<|cI h hS rfl (fun ec87 hS=>?_) fun ec87 hS=>?_
 exact nomatch hS
 exact c_skip (exU1 ⟨hS,h.to,H⟩)
 refine rg fun K k=>cps 1 h rfl fun a h=>sB h hS rfl (v_eq rfl rfl) fun z88 e88 hS a h=>cz k<|cI h hS rfl (fun ec89 hS=>?_) fun ec89 hS=>?_
 exact nomatch hS
 exact c_skip (exU1 ⟨hS,h.to,H⟩)
theorem num_scaled_ok {x0:Int} {x1:Int} {x2:Int} {res:Int × Bool} {w0:World} (hS:num_scaled x0 x1 x2=some res):Calls Tryz.prog 81 [.int .u64 x0,.int .u64 x1,.int .u64 x2].toArray w0 (Ret fun v w=>v=.tuple #[.int .u64 res.1,.bool res.2]∧Ext w0 w):=by
 refine en func81 [0,1,2] O3 fun Q a Zi Z hzs H h hr=>?_
 clear hzs
 unfold num_scaled at hS
 refine rg fun K k=>cps 2 h rfl fun a h=>cz k<|rg fun K k=>cps 2 h rfl fun a h=>?_
 obtain ⟨c2,hS⟩:=ck hS
 obtain ⟨z3,e3,hS⟩:=bv hS
 refine st2v (T:=Ext) (V:=.tuple #[.int .u64 z3.1,.int .u64 z3.2]) h rfl rfl rfl ((by rw [e3];exact dC call113 (lib_mul64 c2))) fun w X a h=>?_
 have H:=H.ext X
 refine cps 5 h rfl fun a h=>cN k h [2,8,9] O3 fun h=>?_
 refine sq<|rg fun K k=>cps 2 h rfl fun a h=>sB h hS rfl (v_ge rfl rfl) fun z5 e5 hS a h=>cz k<|cI h hS rfl (fun ec6 hS=>?_) fun ec6 hS=>?_
 refine rg fun K k=>cps 2 h rfl fun a h=>cN k h [6,7] O2 fun h=>?_
 cases hS
 refine r2 hr h rfl rfl rfl ⟨rfl,H.out⟩
 refine c_skip<|rg fun K k=>cps 3 h rfl fun a h=>sC h H hS rfl (fun y7 f7=>dC call114 (bits_Div64_ok f7 :)) fun y7 hS w X H a h=>?_
 refine cps 5 h rfl fun a h=>cN k h [2,10,11] O3 fun h=>?_
 obtain ⟨J9,eJ9,hS⟩:=bv hS
 refine sqJ (fun a w=>∃ (Z:FZ) (s9:Int),J9 s9=some res∧Fr 45 [(2,.int .u64 x2),(10,.int .u64 s9),(11,.int .u64 y7.2)] a∧HZ w0 Zi Z [] w) ?_ ?_
 rintro a w ⟨Z,s9,hS,h,H⟩
 subst eJ9
 refine rg fun K k=>cps 2 h rfl fun a h=>sB h hS rfl (v_ne rfl rfl) fun z10 e10 hS a h=>cps 1 h rfl fun a h=>st_g h rfl rfl (gF rfl) rfl rfl (fun e0=>v_move rfl) fun a h=>?_
 refine st_g h rfl rfl (gF rfl) rfl rfl (fun e0=>v_move rfl) fun a h=>?_
 refine st_g h rfl rfl (gF rfl) rfl rfl (fun e0=>v_move rfl) fun a h=>?_
 obtain ⟨z11,e11,hS⟩:=bv hS
 refine st_g h rfl rfl (gF rfl) rfl rfl (fun e0=>vI e11 (v_subw (eg e0 rfl) (eg e0 rfl))) fun a h=>?_
 obtain ⟨z12,e12,hS⟩:=bv hS
 refine st_g h rfl rfl (gF rfl) rfl rfl (fun e0=>vB e12 (v_lt (eg e0 rfl) (eg e0 rfl))) fun a h=>?_
 refine sB h hS rfl (v_or rfl rfl) fun z13 e13 hS a h=>cps 2 h rfl fun a h=>cN k h [6,7] O2 fun h=>?_
 cases hS
 refine r2 hr h rfl rfl rfl ⟨rfl,H.out⟩
 refine rg fun K k=>cps 3 h rfl fun a h=>sI h hS rfl (v_subw rfl rfl) fun z14 e14 hS a h=>sB h hS rfl (v_ge rfl rfl) fun z15 e15 hS a h=>cN k h [2,10,11,32] O4 fun h=>?_
 refine cI h hS rfl (fun ec16 hS=>?_) fun ec16 hS=>?_
 refine c_lregion<|cps 1 h rfl fun a h=>sI h hS rfl (v_addw rfl rfl) fun z17 e17 hS a h=>cps 1 h rfl fun a h=>c_lnil ?_
 exact ex2 ⟨hS,h.to,H⟩
 exact c_skip (ex2 ⟨hS,h.to,H⟩)
theorem num_Mul_ok {x0:Int} {x1:Int} {res:Int × Bool} {w0:World} (hS:num_Mul x0 x1=some res):Calls Tryz.prog 56 [.int .i64 x0,.int .i64 x1].toArray w0 (Ret fun v w=>v=.tuple #[.int .i64 res.1,.bool res.2]∧Ext w0 w):=by
 refine en func56 [0,1] O2 fun Q a Zi Z hzs H h hr=>?_
 clear hzs
 unfold num_Mul at hS
 refine rg fun K k=>cps 2 h rfl fun a h=>cz k<|rg fun K k=>cps 1 h rfl fun a h=>sC h H hS rfl (fun y1 f1=>dC call82 (num_abs_ok f1 :)) fun y1 hS w X H a h=>?_
 refine cps 1 h rfl fun a h=>sC h H hS rfl (fun y2 f2=>dC call82 (num_abs_ok f2 :)) fun y2 hS w X H a h=>?_
 refine sC h H hS rfl (fun y3 f3=>dC call81 (num_scaled_ok f3 :)) fun y3 hS w X H a h=>?_
 refine cps 5 h rfl fun a h=>cN k h [0,1,6,7] O4 fun h=>?_
 refine sq<|rg fun K k=>cps 1 h rfl fun a h=>sB h hS rfl (v_not rfl) fun z5 e5 hS a h=>cz k<|cI h hS rfl (fun ec6 hS=>?_) fun ec6 hS=>?_
 refine rg fun K k=>cps 2 h rfl fun a h=>cN k h [4,5] O2 fun h=>?_
 cases hS
 refine r2 hr h rfl rfl rfl ⟨rfl,H.out⟩
 refine c_skip<|rg fun K k=>cps 2 h rfl fun a h=>sB h hS rfl (v_lt rfl rfl) fun z7 e7 hS a h=>cps 1 h rfl fun a h=>sB h hS rfl (v_lt rfl rfl) fun z8 e8 hS a h=>sB h hS rfl (v_bne U4 rfl rfl) fun z9 e9 hS a h=>sC h H hS rfl (fun y10 f10=>dC call83 (num_signed_ok f10 :)) fun y10 hS w X H a h=>?_
 refine cps 4 h rfl fun a h=>cN k h [4,5] O2 fun h=>?_
 cases hS
 refine r2 hr h rfl rfl rfl ⟨rfl,H.out⟩
theorem num_Quo_ok {x0:Int} {x1:Int} {res:Int × Bool} {w0:World} (hS:num_Quo x0 x1=some res):Calls Tryz.prog 117 [.int .i64 x0,.int .i64 x1].toArray w0 (Ret fun v w=>v=.tuple #[.int .i64 res.1,.bool res.2]∧Ext w0 w):=by
 refine en func117 [0,1] O2 fun Q a Zi Z hzs H h hr=>?_
 clear hzs
 unfold num_Quo at hS
 refine rg fun K k=>cps 2 h rfl fun a h=>cz k<|sq<|rg fun K k=>cps 1 h rfl fun a h=>sB h hS rfl (v_eq rfl rfl) fun z2 e2 hS a h=>cz k<|cI h hS rfl (fun ec3 hS=>?_) fun ec3 hS=>?_
 refine rg fun K k=>cps 2 h rfl fun a h=>cN k h [4,5] O2 fun h=>?_
 cases hS
 refine r2 hr h rfl rfl rfl ⟨rfl,H.out⟩
 refine c_skip<|cO h [0,1] O2 fun h=>?_
 refine rg fun K k=>cps 1 h rfl fun a h=>sC h H hS rfl (fun y4 f4=>dC call82 (num_abs_ok f4 :)) fun y4 hS w X H a h=>?_
 refine cps 1 h rfl fun a h=>sC h H hS rfl (fun y5 f5=>dC call82 (num_abs_ok f5 :)) fun y5 hS w X H a h=>?_
 refine sC h H hS rfl (fun y6 f6=>dC call81 (num_scaled_ok f6 :)) fun y6 hS w X H a h=>?_
 refine cps 5 h rfl fun a h=>cN k h [0,1,6,7] O4 fun h=>?_
 refine sq<|rg fun K k=>cps 1 h rfl fun a h=>sB h hS rfl (v_not rfl) fun z8 e8 hS a h=>cz k<|cI h hS rfl (fun ec9 hS=>?_) fun ec9 hS=>?_
 refine rg fun K k=>cps 2 h rfl fun a h=>cN k h [4,5] O2 fun h=>?_
 cases hS
 refine r2 hr h rfl rfl rfl ⟨rfl,H.out⟩
 refine c_skip<|rg fun K k=>cps 2 h rfl fun a h=>sB h hS rfl (v_lt rfl rfl) fun z10 e10 hS a h=>cps 1 h rfl fun a h=>sB h hS rfl (v_lt rfl rfl) fun z11 e11 hS a h=>sB h hS rfl (v_bne U4 rfl rfl) fun z12 e12 hS a h=>sC h H hS rfl (fun y13 f13=>dC call83 (num_signed_ok f13 :)) fun y13 hS w X H a h=>?_
 refine cps 4 h rfl fun a h=>cN k h [4,5] O2 fun h=>?_
 cases hS
 refine r2 hr h rfl rfl rfl ⟨rfl,H.out⟩
theorem num_Print_ok {x0:Int} {res:(List UInt8)} {w0:World} (hS:num_Print x0=some res):Calls Tryz.prog 147 [.int .i64 x0].toArray w0 (Ret fun v w=>v=S res∧Ext w0 w):=by
 refine en func147 [0] [_] fun Q a Zi Z hzs H h hr=>?_
 clear hzs
 unfold num_Print at hS
 refine rg fun K k=>cps 1 h rfl fun a h=>cz k<|rg fun K k=>cps 1 h rfl fun a h=>sC h H hS rfl (fun y1 f1=>dC call82 (num_abs_ok f1 :)) fun y1 hS w X H a h=>?_
 refine cps 1 h rfl fun a h=>cz k<|rg fun K k=>z_slice0 h H U22 Z5 rfl fun a v12_2 w X H h=>?_
 have H:HZ w0 _ _ [_] _:=H
 refine cps 1 h rfl fun a h=>cN k h [0,3,4] O3 fun h=>?_
 refine rg fun K k=>cps 1 h rfl fun a h=>cz k ?_
 obtain ⟨J4,eJ4,hS⟩:=bv hS
 refine sqJ (fun a w=>∃ (Z:FZ) (s4:(List (Int))) (sv5:Value),J4 s4=some res∧Fr 74 [(0,.int .i64 x0),(4,sv5)] a∧HZ w0 Zi Z [.row 5 1 sv5 (s4:List (Int)).length ((s4:List (Int)).flatMap (eI .u8))] w) ?_ ?_
 rintro a w ⟨Z,s4,sv5,hS,h,H⟩
 subst eJ4
 obtain ⟨J7,eJ7,hS⟩:=bv hS
 refine sqJ (fun a w=>∃ (Z:FZ) (s7:(List (Int))) (sv8:Value),J7 s7=some res∧Fr 74 [(4,sv8)] a∧HZ w0 Zi Z [.row 5 1 sv8 (s7:List (Int)).length ((s7:List (Int)).flatMap (eI .u8))] w) ?_ ?_
 rintro a w ⟨Z,s7,sv8,hS,h,H⟩
 subst eJ7
 obtain ⟨J10,eJ10,hS⟩:=bv hS
 refine sqJ (fun a w=>∃ (Z:FZ) (s10:(List (Int))) (sv11:Value),J10 s10=some res∧Fr 74 [(4,sv11)] a∧HZ w0 Zi Z [.row 5 1 sv11 (s10:List (Int)).length ((s10:List (Int)).flatMap (eI .u8))] w) ?_ ?_
 rintro a w ⟨Z,s10,sv11,hS,h,H⟩
 subst eJ10
 refine rg fun K k=>cps 1 h rfl fun a h=>?_
 obtain ⟨c12,hS⟩:=ck hS
 refine sS h hS rfl (v_toStrI U22 U5 U9 rfl (H.getRow (i:=0) (enc:=(eI .u8)) rfl) c12) fun z13 e13 hS a h=>cps 1 h rfl fun a h=>cz k ?_
 cases hS
 refine r1 hr h rfl rfl ⟨rfl,H.out⟩
 refine rg fun K k=>cps 1 h rfl fun a h=>s1 h rfl (v_len U22 rfl (H.getRow (i:=0) (enc:=(eI .u8)) rfl)) fun a h=>sI h hS rfl (v_subw rfl rfl) fun z14 e14 hS a h=>cps 2 h rfl fun a h=>cz k<|lb ?_
 obtain ⟨B16,eB16,hS⟩:=bv hS
 refine lpJ (fun mu_ a w=>∃ (Z:FZ) (s16:Int × Int × (List (Int))) (sv18:Value),loopF B16 mu_ s16=some res∧Fr 74 [(4,sv18),(8,.int .i64 s16.1),(9,.int .i64 s16.2.1)] a∧HZ w0 Zi Z [.row 5 1 sv18 (s16.2.2:List (Int)).length ((s16.2.2:List (Int)).flatMap (eI .u8))] w) KK ⟨_,_,_,hS,h.to,H⟩ ?_
 rintro mu_ a w ⟨Z,s16,sv18,hS,h,H⟩
 obtain ⟨mu_,rfl,n16,en16,hS⟩:=lpX eB16 hS
 refine sq<|rg fun K k=>cps 2 h rfl fun a h=>sB h hS rfl (v_lt rfl rfl) fun z20 e20 hS a h=>cz k<|cI h hS rfl (fun ec21 hS=>?_) fun ec21 hS=>?_
 refine c_skip<|sb ?_
 obtain ⟨c23,hS⟩:=ck hS
 obtain ⟨c24,hS⟩:=ck hS
 obtain ⟨zrow_25,ezrow_25,hS⟩:=bv hS
 obtain ⟨bb,cap_,cs,hsv,hb,hcl,hct⟩:=H.openRow (i:=0) rfl (by omega)
 rw [hsv] at h H
 have hpi:=row_at hct c23
 have hpj:=row_at hct c24
 have hli:(Int.toNat s16.1)<cs.length:=by omega
 have hlj:(Int.toNat s16.2.1)<cs.length:=by omega
 refine c_lany kR ?_
 have H:=H.ext (Ext.drew w)
 have hb:(w.drew).heap[bb]?=some (.cells cs.toArray 5 (0,0)):=hb
 have hX:({ w with drawn:=w.drawn+1 }:World)=w.drew:=rfl
 rw [hX]
 generalize w.drew=wd at *
 refine a_hoist (i:=0) h rfl rfl rfl rfl (fun w=>v_move rfl) kR rfl fun a h=>?_
 refine a_hoist (i:=1) h rfl rfl rfl rfl (fun w=>v_move rfl) kR rfl fun a h=>?_
 refine a_hoist (i:=2) h rfl rfl rfl rfl (fun w=>v_move rfl) kR rfl fun a h=>?_
 refine a_hoist (i:=3) h rfl rfl rfl rfl (fun w=>v_move rfl) kR rfl fun a h=>?_
 refine a_hoist (i:=4) h rfl rfl rfl rfl (fun w=>v_move rfl) kR rfl fun a h=>?_
 refine a_hoist (i:=5) h rfl rfl rfl rfl (fun w=>v_move rfl) kR rfl fun a h=>?_
 refine a_hoist (i:=6) h rfl rfl rfl rfl (fun w=>v_idxB (data:=s16.2.2) (sz:=1) U22 Z5 rfl rfl rfl c24) kR rfl fun a h=>?_
 refine a_hoist (i:=8) h rfl rfl rfl rfl (fun w=>v_move rfl) kR rfl fun a h=>?_
 refine a_hoist (i:=9) h rfl rfl rfl rfl (fun w=>v_move rfl) kR rfl fun a h=>?_
 refine a_hoist (i:=10) h rfl rfl rfl rfl (fun w=>v_idxB (data:=s16.2.2) (sz:=1) U22 Z5 rfl rfl rfl c23) kR rfl fun a h=>?_
 refine a_two (i:=7) (j:=11) kR rfl rfl (R1.val h rfl (v_load1 rfl isAgg5 hb hpj)) (R1.val h rfl (v_load1 rfl isAgg5 hb hpi)) ?_ ?_
 have h:=h.put (d:=65) rfl (.int .u8 (gel s16.2.2 s16.2.1))
 refine a_one (i:=11) kR rfl (R1.val h rfl (v_load1 rfl isAgg5 hb hpi)) rfl ?_
 have h:=h.put (d:=69) rfl (.int .u8 (gel s16.2.2 s16.1))
 refine a_one (i:=12) kR rfl (R1.val h rfl (v_idxB (data:=s16.2.2) (sz:=1) U22 Z5 rfl rfl rfl c23)) rfl ?_
 have h:=h.put (d:=70) rfl (.pointer (some ⟨bb,(Int.toNat s16.1),none⟩))
 obtain ⟨w1,hR1,hb1,a1,a2,a3,a4,a5⟩:=r_store1 (ops:=_) (P:=Tryz.prog) (x:=.tmp 70) (y:=.tmp 65) (off:=(Int.toNat s16.1)) (u:=.int .u8 (gel s16.2.2 s16.2.1)) h rfl rfl rfl rfl rfl Z5 hb hli
 refine a_one (i:=13) kR rfl hR1 rfl ?_
 refine a_one (i:=14) kR rfl (R1.val h rfl (v_idxB (data:=s16.2.2) (sz:=1) U22 Z5 rfl rfl rfl c24)) rfl ?_
 have h:=h.put (d:=71) rfl (.pointer (some ⟨bb,(Int.toNat s16.2.1),none⟩))
 obtain ⟨w2,hR2,hb2,b1,b2,b3,b4,b5⟩:=r_store1 (ops:=_) (P:=Tryz.prog) (x:=.tmp 71) (y:=.tmp 69) (off:=(Int.toNat s16.2.1)) (u:=.int .u8 (gel s16.2.2 s16.1)) h rfl rfl rfl rfl rfl Z5 hb1 (by rw [List.length_set];exact hlj)
 refine a_one (i:=15) kR rfl hR2 rfl ?_
 refine a_end kR ?_
 have H:=H.setRow (i:=0) (k:=.u8) (out:=s16.2.2) (out':=zrow_25) rfl hb hb2 (by rw [ezrow_25];simp) (by simp) (by rw [ezrow_25,List.take_set,List.take_set,hct,List.map_set,List.map_set]) (b1.trans a1) (b2.trans a2) (b3.trans a3) (b4.trans a4) (fun c hc=>(b5 c hc).trans (a5 c hc))
 have h:=h.only [4,8,9] (l':=O3) rfl
 have H:HZ w0 _ _ [_] _:=H
 generalize w2=w at h H
 refine c_lregion<|cps 1 h rfl fun a h=>sI h hS rfl (v_addw rfl rfl) fun z26 e26 hS a h=>cps 1 h rfl fun a h=>sI h hS rfl (v_subw rfl rfl) fun z27 e27 hS a h=>cps 2 h rfl fun a h=>c_lnil ?_
 exact exL (ex3 ⟨lpN en16 hS,h.to,H⟩)
 have h:=h.put (d:=69) rfl (.int .u8 (gel s16.2.2 s16.1))
 refine a_one (i:=7) kR rfl (R1.val h rfl (v_load1 rfl isAgg5 hb hpj)) rfl ?_
 have h:=h.put (d:=65) rfl (.int .u8 (gel s16.2.2 s16.2.1))
 refine a_one (i:=12) kR rfl (R1.val h rfl (v_idxB (data:=s16.2.2) (sz:=1) U22 Z5 rfl rfl rfl c23)) rfl ?_
 have h:=h.put (d:=70) rfl (.pointer (some ⟨bb,(Int.toNat s16.1),none⟩))
 obtain ⟨w1,hR1,hb1,a1,a2,a3,a4,a5⟩:=r_store1 (ops:=_) (P:=Tryz.prog) (x:=.tmp 70) (y:=.tmp 65) (off:=(Int.toNat s16.1)) (u:=.int .u8 (gel s16.2.2 s16.2.1)) h rfl rfl rfl rfl rfl Z5 hb hli
 refine a_one (i:=13) kR rfl hR1 rfl ?_
 refine a_one (i:=14) kR rfl (R1.val h rfl (v_idxB (data:=s16.2.2) (sz:=1) U22 Z5 rfl rfl rfl c24)) rfl ?_
 have h:=h.put (d:=71) rfl (.pointer (some ⟨bb,(Int.toNat s16.2.1),none⟩))
 obtain ⟨w2,hR2,hb2,b1,b2,b3,b4,b5⟩:=r_store1 (ops:=_) (P:=Tryz.prog) (x:=.tmp 71) (y:=.tmp 69) (off:=(Int.toNat s16.2.1)) (u:=.int .u8 (gel s16.2.2 s16.1)) h rfl rfl rfl rfl rfl Z5 hb1 (by rw [List.length_set];exact hlj)
 refine a_one (i:=15) kR rfl hR2 rfl ?_
 refine a_end kR ?_
 have H:=H.setRow (i:=0) (k:=.u8) (out:=s16.2.2) (out':=zrow_25) rfl hb hb2 (by rw [ezrow_25];simp) (by simp) (by rw [ezrow_25,List.take_set,List.take_set,hct,List.map_set,List.map_set]) (b1.trans a1) (b2.trans a2) (b3.trans a3) (b4.trans a4) (fun c hc=>(b5 c hc).trans (a5 c hc))
 have h:=h.only [4,8,9] (l':=O3) rfl
 have H:HZ w0 _ _ [_] _:=H
 generalize w2=w at h H
 refine c_lregion<|cps 1 h rfl fun a h=>sI h hS rfl (v_addw rfl rfl) fun z28 e28 hS a h=>cps 1 h rfl fun a h=>sI h hS rfl (v_subw rfl rfl) fun z29 e29 hS a h=>cps 2 h rfl fun a h=>c_lnil ?_
 exact exL (ex3 ⟨lpN en16 hS,h.to,H⟩)
 exact c_exit (ex3 ⟨hS,h.to,H⟩)
 refine rg fun K k=>cps 1 h rfl fun a h=>sB h hS rfl (v_lt rfl rfl) fun z30 e30 hS a h=>cz k<|cI h hS rfl (fun ec31 hS=>?_) fun ec31 hS=>?_
 refine c_lregion<|cps 1 h rfl fun a h=>z_slice (enc:=(eI .u8)) ([45]:List (Int)) h H U22 Z5 zeroValue5 rfl (zl:=[.int .u8 0]) kR (plA_get 1 1) [_] [_] rfl rfl rfl rfl rfl fun a v46_32 Z w hsub X H r46_32 h=>?_
 obtain ⟨c34,hS⟩:=ck hS
 obtain ⟨z35,e35,hS⟩:=bv hS
 refine z_appendS (enc:=(eI .u8)) (out:=s4) (data:=[45]) h H 0 rfl U22 app5 rfl rfl rfl r46_32 (fun _=>rfl) (fun _ _=>rfl) c34 rfl fun a v47_33 w H h=>?_
 rw [←e35] at H
 have H:HZ w0 _ _ [_] _:=H
 refine cps 1 h rfl fun a h=>c_lnil ?_
 exact ex3 ⟨hS,h.to,H⟩
 exact c_skip (ex3 ⟨hS,h.to,H⟩)
 refine rg fun K k=>cps 1 h rfl fun a h=>cz k<|lb ?_
 obtain ⟨B37,eB37,hS⟩:=bv hS
 refine lpJ (fun mu_ a w=>∃ (Z:FZ) (s37:Int × Bool × Int × (List (Int))) (sv39:Value),loopF B37 mu_ s37=some res∧Fr 74 [(0,.int .i64 x0),(3,.int .u64 s37.1),(4,sv39),(5,.bool s37.2.1),(6,.int .i64 s37.2.2.1)] a∧HZ w0 Zi Z [.row 5 1 sv39 (s37.2.2.2:List (Int)).length ((s37.2.2.2:List (Int)).flatMap (eI .u8))] w) KK ⟨_,_,_,hS,h.to,H⟩ ?_
 rintro mu_ a w ⟨Z,s37,sv39,hS,h,H⟩
 obtain ⟨mu_,rfl,n37,en37,hS⟩:=lpX eB37 hS
 refine sq<|rg fun K k=>cps 1 h rfl fun a h=>sB h hS rfl (v_lt rfl rfl) fun z41 e41 hS a h=>cps 1 h rfl fun a h=>st_g h rfl rfl (gF rfl) rfl rfl (fun e0=>v_move rfl) fun a h=>?_
 obtain ⟨z42,e42,hS⟩:=bv hS
 refine st_g h rfl rfl (gF rfl) rfl rfl (fun e0=>vB e42 (v_gt (eg e0 rfl) rfl)) fun a h=>?_
 refine sB h hS rfl (v_or rfl rfl) fun z43 e43 hS a h=>cN k h [0,3,4,5,6,18] O6 fun h=>?_
 refine cI h hS rfl (fun ec44 hS=>?_) fun ec44 hS=>?_
 refine c_skip ?_
 obtain ⟨J46,eJ46,hS⟩:=bv hS
 refine sbJ (fun a w=>∃ (Z:FZ) (s46:Int × Bool × (List (Int))) (sv47:Value),J46 s46=some res∧Fr 74 [(0,.int .i64 x0),(3,.int .u64 s46.1),(4,sv47),(5,.bool s46.2.1),(6,.int .i64 s37.2.2.1)] a∧HZ w0 Zi Z [.row 5 1 sv47 (s46.2.2:List (Int)).length ((s46.2.2:List (Int)).flatMap (eI .u8))] w) ?_ ?_
 rintro a w ⟨Z,s46,sv47,hS,h,H⟩
 subst eJ46
 refine c_lregion<|cps 1 h rfl fun a h=>sI h hS rfl (v_addw rfl rfl) fun z48 e48 hS a h=>cps 1 h rfl fun a h=>c_lnil ?_
 exact exL (ex3 ⟨lpN en37 hS,h.to,H⟩)
 obtain ⟨J50,eJ50,hS⟩:=bv hS
 refine sqJ (fun a w=>∃ (Z:FZ) (s50:Bool × (List (Int))) (sv51:Value),J50 s50=some res∧Fr 74 [(0,.int .i64 x0),(3,.int .u64 s37.1),(4,sv51),(5,.bool s50.1),(6,.int .i64 s37.2.2.1)] a∧HZ w0 Zi Z [.row 5 1 sv51 (s50.2:List (Int)).length ((s50.2:List (Int)).flatMap (eI .u8))] w) ?_ ?_
 rintro a w ⟨Z,s50,sv51,hS,h,H⟩
 subst eJ50
 refine rg fun K k=>cps 1 h rfl fun a h=>sI h hS rfl (v_rem rfl rfl (by decide)) fun z52 e52 hS a h=>sI h hS rfl (v_convInt (by rw [underlying140];rfl) U5 rfl rfl) fun z53 e53 hS a h=>cps 1 h rfl fun a h=>cz k<|rg fun K k=>cps 1 h rfl fun a h=>sI h hS rfl (v_quow rfl rfl (by decide)) fun z54 e54 hS a h=>cps 1 h rfl fun a h=>cN k h [0,3,4,5,6,7] O6 fun h=>?_
 refine sq<|rg fun K k=>cps 2 h rfl fun a h=>st_g h rfl rfl (gT rfl) rfl rfl (fun e0=>v_move rfl) fun a h=>?_
 obtain ⟨z56,e56,hS⟩:=bv hS
 refine st_g h rfl rfl (gT rfl) rfl rfl (fun e0=>vB e56 (v_eq (eg e0 rfl) rfl)) fun a h=>?_
 refine sB h hS rfl (v_and rfl rfl) fun z57 e57 hS a h=>cN k h [0,3,4,5,6,7,37] O7 fun h=>?_
 refine cI h hS rfl (fun ec58 hS=>?_) fun ec58 hS=>?_
 exact c_exit (ex3 ⟨hS,h.to,H⟩)
 refine c_skip<|rg fun K k=>cps 1 h rfl fun a h=>cz k<|c_lregion<|cps 2 h rfl fun a h=>sI h hS rfl (v_addw rfl rfl) fun z59 e59 hS a h=>z_slice (enc:=(eI .u8)) ([z59]:List (Int)) h H U22 Z5 zeroValue5 rfl (zl:=[.int .u8 0]) kR (plA_get 1 1) [_] [_] rfl rfl rfl rfl rfl fun a v41_60 Z w hsub X H r41_60 h=>?_
 obtain ⟨c62,hS⟩:=ck hS
 obtain ⟨z63,e63,hS⟩:=bv hS
 refine z_appendS (enc:=(eI .u8)) (out:=s50.2) (data:=[z59]) h H 0 rfl U22 app5 rfl rfl rfl r41_60 (fun _=>rfl) (fun _ _=>rfl) c62 rfl fun a v42_61 w H h=>?_
 rw [←e63] at H
 have H:HZ w0 _ _ [_] _:=H
 refine cps 1 h rfl fun a h=>c_lnil ?_
 exact ex3 ⟨hS,h.to,H⟩
 refine rg fun K k=>cps 1 h rfl fun a h=>sB h hS rfl (v_eq rfl rfl) fun z64 e64 hS a h=>cz k<|cI h hS rfl (fun ec65 hS=>?_) fun ec65 hS=>?_
 refine sq<|rg fun K k=>cps 1 h rfl fun a h=>sB h hS rfl (v_not rfl) fun z67 e67 hS a h=>cN k h [0,3,4,6,24] O5 fun h=>?_
 refine cI h hS rfl (fun ec68 hS=>?_) fun ec68 hS=>?_
 refine c_lregion<|cps 1 h rfl fun a h=>z_slice (enc:=(eI .u8)) ([46]:List (Int)) h H U22 Z5 zeroValue5 rfl (zl:=[.int .u8 0]) kR (plA_get 1 1) [_] [_] rfl rfl rfl rfl rfl fun a v26_69 Z w hsub X H r26_69 h=>?_
 obtain ⟨c71,hS⟩:=ck hS
 obtain ⟨z72,e72,hS⟩:=bv hS
 refine z_appendS (enc:=(eI .u8)) (out:=s37.2.2.2) (data:=[46]) h H 0 rfl U22 app5 rfl rfl rfl r26_69 (fun _=>rfl) (fun _ _=>rfl) c71 rfl fun a v27_70 w H h=>?_
 rw [←e72] at H
 have H:HZ w0 _ _ [_] _:=H
 refine cps 1 h rfl fun a h=>c_lnil<|cO h [0,3,4,6] O4 fun h=>?_
 refine c_lregion<|cps 1 h rfl fun a h=>c_lnil ?_
 exact ex3 ⟨hS,h.to,H⟩
 refine c_skip<|c_lregion<|cps 1 h rfl fun a h=>c_lnil ?_
 exact ex3 ⟨hS,h.to,H⟩
 exact c_skip (ex3 ⟨hS,h.to,H⟩)
 exact c_exit (ex3 ⟨hS,h.to,H⟩)
theorem value_Show_ok {x0:V} {res:(List UInt8)} {w0:World} (hS:value_Show x0=some res) (hG:GW w0):Calls Tryz.prog 119 [(vA x0)].toArray w0 (Ret fun v w=>v=S res∧Ext w0 w):=by
 refine en func119 [0] [_] fun Q a Zi Z hzs H h hr=>?_
 clear hzs
 unfold value_Show at hS
 refine rg fun K k=>z_box h H rfl O3 rfl rfl fun a p1 w X H h=>?_
 have H:HZ w0 _ _ [_] _:=H
 refine cps 1 h rfl fun a h=>cz k<|sq<|rg fun K k=>s1 h rfl (v_fieldAddr rfl U26 rfl Z3 rfl rfl) fun a h=>s1 h rfl (l1 H 0 A3) fun a h=>cz k<|lb<|rg fun K k=>sB h hS rfl (v_eq rfl rfl) fun z4 e4 hS a h=>cps 1 h rfl fun a h=>cN k h [1,4,5] O3 fun h=>?_
 refine cI h hS rfl (fun ec5 hS=>?_) fun ec5 hS=>?_
 refine rg fun K k=>s1 h rfl (v_fieldAddr rfl U26 rfl Z2 rfl rfl) fun a h=>s1 h rfl (l1 H 0 A2) fun a h=>sC h H hS rfl (fun y6 f6=>dC call147 (num_Print_ok f6 :)) fun y6 hS w X H a h=>?_
 refine cps 1 h rfl fun a h=>cN k h [2] [_] fun h=>?_
 cases hS
 refine r1 hr h rfl rfl ⟨rfl,H.out⟩
 refine rg fun K k=>sB h hS rfl (v_eq rfl rfl) fun z7 e7 hS a h=>cps 1 h rfl fun a h=>cz k<|cI h hS rfl (fun ec8 hS=>?_) fun ec8 hS=>?_
 refine rg fun K k=>s1 h rfl (v_fieldAddr rfl U26 rfl Z9 rfl rfl) fun a h=>s1 h rfl (l1 H 0 A9) fun a h=>cps 1 h rfl fun a h=>cN k h [2] [_] fun h=>?_
 cases hS
 refine r1 hr h rfl rfl ⟨rfl,H.out⟩
 refine rg fun K k=>sB h hS rfl (v_eq rfl rfl) fun z9 e9 hS a h=>cps 1 h rfl fun a h=>cN k h [1,4,14] O3 fun h=>?_
 refine cI h hS rfl (fun ec10 hS=>?_) fun ec10 hS=>?_
 refine sq<|rg fun K k=>s1 h rfl (v_fieldAddr rfl U26 rfl Z2 rfl rfl) fun a h=>s1 h rfl (l1 H 0 A2) fun a h=>sB h hS rfl (v_eq rfl rfl) fun z12 e12 hS a h=>cN k h [18] [_] fun h=>?_
 refine cI h hS rfl (fun ec13 hS=>?_) fun ec13 hS=>?_
 refine rg fun K k=>cps 1 h rfl fun a h=>cz k ?_
 cases hS
 refine r1 hr h rfl rfl ⟨rfl,H.out⟩
 refine c_skip<|rg fun K k=>cps 1 h rfl fun a h=>cz k ?_
 cases hS
 refine r1 hr h rfl rfl ⟨rfl,H.out⟩
 refine rg fun K k=>sB h hS rfl (v_eq rfl rfl) fun z14 e14 hS a h=>cps 1 h rfl fun a h=>cz k<|cI h hS rfl (fun ec15 hS=>?_) fun ec15 hS=>?_
 refine rg fun K k=>s1 h rfl (v_fieldAddr rfl U26 rfl Z2 rfl rfl) fun a h=>s1 h rfl (l1 H 0 A2) fun a h=>sC h H hS rfl (fun y16 f16=>dC call140 (value_ErrorName_ok f16 (hG.ext H.out) :)) fun y16 hS w X H a h=>?_
 refine cps 1 h rfl fun a h=>cN k h [2] [_] fun h=>?_
 cases hS
 refine r1 hr h rfl rfl ⟨rfl,H.out⟩
 refine c_skip<|cO h [] [] fun h=>?_
 refine rg fun K k=>cps 1 h rfl fun a h=>cz k ?_
 cases hS
 refine r1 hr h rfl rfl ⟨rfl,H.out⟩
theorem value_ToText_ok {x0:V} {res:V} {w0:World} (hS:value_ToText x0=some res) (hG:GW w0):Calls Tryz.prog 205 [(vA x0)].toArray w0 (Ret fun v w=>v=.agg #[.int .i64 res.k,.int .i64 res.n,S res.s]∧Ext w0 w):=by
 refine en func205 [0] [_] fun Q a Zi Z hzs H h hr=>?_
 clear hzs
 unfold value_ToText at hS
 refine rg fun K k=>z_box h H rfl O3 rfl rfl fun a p1 w X H h=>?_
 have H:HZ w0 _ _ [_] _:=H
 refine zA h H V26 O3 (fun x=>[_,x]) fun a p2 w X H h=>?_
 refine cz k<|sq<|rg fun K k=>s1 h rfl (v_fieldAddr rfl U26 rfl Z3 rfl rfl) fun a h=>s1 h rfl (l1 H 0 A3) fun a h=>sB h hS rfl (v_eq rfl rfl) fun z4 e4 hS a h=>cz k<|cI h hS rfl (fun ec5 hS=>?_) fun ec5 hS=>?_
 refine rg fun K k=>s1 h rfl (lA H 0 A26 Z26 O3) fun a h=>zS h H 1 Z26 O3 O3 O2 fun w H=>?_
 refine cN k h [2] [_] fun h=>?_
 cases hS
 refine r1 hr h rfl (rvA H 1 A26 Z26 O3) ⟨rfl,H.out⟩
 refine c_skip<|cO h [1,2] O2 fun h=>?_
 refine rg fun K k=>s1 h rfl (lA H 0 A26 Z26 O3) fun a h=>sC h H hS rfl (fun y6 f6=>dC call119 (value_Show_ok f6 (hG.ext H.out) :)) fun y6 hS w X H a h=>?_
 refine sC h H hS rfl (fun y7 f7=>dC call28 (value_Text_ok f7 :)) fun y7 hS w X H a h=>?_
 refine zS h H 1 Z26 O3 O3 O2 fun w H=>?_
 refine cN k h [2] [_] fun h=>?_
 cases hS
 refine r1 hr h rfl (rvA H 1 A26 Z26 O3) ⟨rfl,H.out⟩
theorem maths_power_ok {x0:Int} {x1:Int} {res:V} {w0:World} (hS:maths_power x0 x1=some res):Calls Tryz.prog 203 [.int .i64 x0,.int .i64 x1].toArray w0 (Ret fun v w=>v=.agg #[.int .i64 res.k,.int .i64 res.n,S res.s]∧Ext w0 w):=by
 refine en func203 [0,1] O2 fun Q a Zi Z hzs H h hr=>?_
 clear hzs
 unfold maths_power at hS
 refine rg fun K k=>zA h H V26 O3 (fun x=>[x]) fun a p1 w X H h=>?_
 refine cz k<|rg fun K k=>sC h H hS rfl (fun y2 f2=>dC call55 (num_Of_ok f2 :)) fun y2 hS w X H a h=>?_
 refine cps 5 h rfl fun a h=>cN k h [0,1,4,5,6] O5 fun h=>?_
 obtain ⟨J4,eJ4,hS⟩:=bv hS
 refine sqJ (fun a w=>∃ (Z:FZ) (s4:Int × Bool),J4 s4=some res∧Fr 25 [(4,(pt p1)),(5,.int .i64 s4.1),(6,.bool s4.2)] a∧HZ w0 Zi Z [.blk p1 (Cel [.int .i64 0,.int .i64 0,S []] 26)] w) ?_ ?_
 rintro a w ⟨Z,s4,hS,h,H⟩
 subst eJ4
 refine rg fun K k=>cps 2 h rfl fun a h=>sC h H hS rfl (fun y5 f5=>dC call116 (value_Made_ok f5 :)) fun y5 hS w X H a h=>?_
 refine zS h H 0 Z26 O3 O3 [_] fun w H=>?_
 refine cN k h [4] [_] fun h=>?_
 cases hS
 refine r1 hr h rfl (rvA H 0 A26 Z26 O3) ⟨rfl,H.out⟩
 refine rg fun K k=>cps 2 h rfl fun a h=>cz k<|lb ?_
 obtain ⟨B7,eB7,hS⟩:=bv hS
 refine lpJ (fun mu_ a w=>∃ (Z:FZ) (s7:Int × Bool × Int),loopF B7 mu_ s7=some res∧Fr 25 [(0,.int .i64 x0),(4,(pt p1)),(5,.int .i64 s7.1),(6,.bool s7.2.1),(11,.int .i64 x1),(12,.int .i64 s7.2.2)] a∧HZ w0 Zi Z [.blk p1 (Cel [.int .i64 0,.int .i64 0,S []] 26)] w) KK ⟨_,_,hS,h.to,H⟩ ?_
 rintro mu_ a w ⟨Z,s7,hS,h,H⟩
 obtain ⟨mu_,rfl,n7,en7,hS⟩:=lpX eB7 hS
 refine rg fun K k=>sB h hS rfl (v_lt rfl rfl) fun z9 e9 hS a h=>cz k<|sq<|cI h hS rfl (fun ec11 hS=>?_) fun ec11 hS=>?_
 refine c_skip<|sb ?_
 refine rg fun K k=>cps 1 h rfl fun a h=>cz k<|cI h hS rfl (fun ec13 hS=>?_) fun ec13 hS=>?_
 refine c_lregion<|cps 2 h rfl fun a h=>sC h H hS rfl (fun y14 f14=>dC call56 (num_Mul_ok f14 :)) fun y14 hS w X H a h=>?_
 refine cps 5 h rfl fun a h=>c_lnil<|cO h [0,4,5,6,11,12] O6 fun h=>?_
 refine c_lregion<|sI h hS rfl (v_addw rfl rfl) fun z15 e15 hS a h=>cps 1 h rfl fun a h=>c_lnil ?_
 exact exL (ex2 ⟨lpN en7 hS,h.to,H⟩)
 refine c_skip<|c_lregion<|sI h hS rfl (v_addw rfl rfl) fun z16 e16 hS a h=>cps 1 h rfl fun a h=>c_lnil ?_
 exact exL (ex2 ⟨lpN en7 hS,h.to,H⟩)
 exact c_exit (ex2 ⟨hS,h.to,H⟩)
theorem lists_Product_ok {x0:List (V)} {res:V} {w0:World} (hS:lists_Product x0=some res) {xv0:Value} (rp0:RdZ (hz w0) xv0 3 vL x0):Calls Tryz.prog 215 [xv0].toArray w0 (Ret fun v w=>v=.agg #[.int .i64 res.k,.int .i64 res.n,S res.s]∧Ext w0 w):=by
 refine en func215 [0] [_] fun Q a Zi Z hzs H h hr=>?_
 have rp0:=rp0.sub hzs
 clear hzs
 unfold lists_Product at hS
 refine rg fun K k=>zA h H V26 O3 (fun x=>[x]) fun a p1 w X H h=>?_
 refine cz k<|rg fun K k=>cps 1 h rfl fun a h=>?_
 obtain ⟨y2,f2,hS⟩:=bo hS
 refine z_callR (data:=y2) h H rfl rfl rfl (dC call241 (lists_numbers_ok (x0:=x0) f2 (rp0.hz H.zin))) fun v9_3 Z w hsub X H r9_3 a h=>?_
 have rp0:=rp0.sub hsub
 refine cps 1 h rfl fun a h=>cz k<|sq<|rg fun K k=>cps 1 h rfl fun a h=>s1 h rfl (v_len U231 rfl (r9_3.at H.zin)) fun a h=>sB h hS rfl (v_eq rfl rfl) fun z5 e5 hS a h=>cN k h [2,3,12] O3 fun h=>?_
 refine cI h hS rfl (fun ec6 hS=>?_) fun ec6 hS=>?_
 refine rg fun K k=>sC h H hS rfl (fun y7 f7=>dC call14 (value_Num_ok f7 :)) fun y7 hS w X H a h=>?_
 refine zS h H 0 Z26 O3 O3 [_] fun w H=>?_
 refine cz k ?_
 cases hS
 refine r1 hr h rfl (rvA H 0 A26 Z26 O3) ⟨rfl,H.out⟩
 refine c_skip<|rg fun K k=>cps 1 h rfl fun a h=>?_
 obtain ⟨c8,hS⟩:=ck hS
 obtain ⟨z9,e9,hS⟩:=bv hS
 refine st_idx h U231 Z2 rfl rfl (r9_3.at H.zin) (fun _=>rfl) z9 c8.1 (by rw [e9];exact gel_some c8) rfl fun a v15 A15 h=>?_
 refine s1 h rfl (v_loadAt1 rfl A15 A2 rfl) fun a h=>cps 2 h rfl fun a h=>cN k h [2,3,4,5] O4 fun h=>?_
 obtain ⟨J11,eJ11,hS⟩:=bv hS
 refine sqJ (fun a w=>∃ (Z:FZ) (s11:Int × Bool),J11 s11=some res∧Fr 35 [(2,(pt p1)),(4,.int .i64 s11.1),(5,.bool s11.2)] a∧HZ w0 Zi Z [.blk p1 (Cel [.int .i64 0,.int .i64 0,S []] 26)] w) ?_ ?_
 rintro a w ⟨Z,s11,hS,h,H⟩
 subst eJ11
 refine rg fun K k=>cps 2 h rfl fun a h=>sC h H hS rfl (fun y12 f12=>dC call116 (value_Made_ok f12 :)) fun y12 hS w X H a h=>?_
 refine zS h H 0 Z26 O3 O3 [_] fun w H=>?_
 refine cN k h [2] [_] fun h=>?_
 cases hS
 refine r1 hr h rfl (rvA H 0 A26 Z26 O3) ⟨rfl,H.out⟩
 refine rg fun K k=>cps 1 h rfl fun a h=>?_
 obtain ⟨c13,hS⟩:=ck hS
 obtain ⟨z14,e14,hS⟩:=bv hS
 refine z_part_l (enc:=(eI .i64)) (sz:=1) (fun _=>rfl) h U231 Z2 rfl rfl r9_3 c13 rfl fun a v18_15 r18_15 h=>?_
 rw [←e14] at r18_15
 refine s1 h rfl (v_len U231 rfl (r18_15.at H.zin)) fun a h=>cps 1 h rfl fun a h=>cz k<|lb ?_
 obtain ⟨B17,eB17,hS⟩:=bv hS
 refine lpJ (fun mu_ a w=>∃ (Z:FZ) (s17:Int × Bool × Int),loopF B17 mu_ s17=some res∧Fr 35 [(2,(pt p1)),(4,.int .i64 s17.1),(5,.bool s17.2.1),(18,v18_15),(19,.int .i64 (z14.length:Int)),(20,.int .i64 s17.2.2)] a∧HZ w0 Zi Z [.blk p1 (Cel [.int .i64 0,.int .i64 0,S []] 26)] w∧RdZ Z v18_15 1 (eI .i64) z14) KK ⟨_,_,hS,h.to,H,r18_15⟩ ?_
 rintro mu_ a w ⟨Z,s17,hS,h,H,r18_15⟩
 obtain ⟨mu_,rfl,n17,en17,hS⟩:=lpX eB17 hS
 refine rg fun K k=>sB h hS rfl (v_lt rfl rfl) fun z19 e19 hS a h=>cz k<|sq<|cI h hS rfl (fun ec21 hS=>?_) fun ec21 hS=>?_
 refine c_skip<|sb ?_
 refine rg fun K k=>?_
 obtain ⟨c23,hS⟩:=ck hS
 obtain ⟨z24,e24,hS⟩:=bv hS
 refine st_idx h U231 Z2 rfl rfl (r18_15.at H.zin) (fun _=>rfl) z24 c23.1 (by rw [e24];exact gel_some c23) rfl fun a v22 A22 h=>?_
 refine s1 h rfl (v_loadAt1 rfl A22 A2 rfl) fun a h=>cps 1 h rfl fun a h=>cz k<|rg fun K k=>cps 1 h rfl fun a h=>cz k<|cI h hS rfl (fun ec25 hS=>?_) fun ec25 hS=>?_
 refine c_lregion<|cps 2 h rfl fun a h=>sC h H hS rfl (fun y26 f26=>dC call56 (num_Mul_ok f26 :)) fun y26 hS w X H a h=>?_
 have A22:=At.ext A22 X
 refine cps 5 h rfl fun a h=>c_lnil<|cO h [2,4,5,18,19,20] O6 fun h=>?_
 refine c_lregion<|sI h hS rfl (v_addw rfl rfl) fun z27 e27 hS a h=>cps 1 h rfl fun a h=>c_lnil ?_
 exact exL (ex2 ⟨lpN en17 hS,h.to,H,r18_15⟩)
 refine c_skip<|cO h [2,4,5,18,19,20] O6 fun h=>?_
 refine c_lregion<|sI h hS rfl (v_addw rfl rfl) fun z28 e28 hS a h=>cps 1 h rfl fun a h=>c_lnil ?_
 exact exL (ex2 ⟨lpN en17 hS,h.to,H,r18_15⟩)
 exact c_exit (ex2 ⟨hS,h.to,H⟩)
theorem lists_Average_ok {x0:List (V)} {res:V} {w0:World} (hS:lists_Average x0=some res) {xv0:Value} (rp0:RdZ (hz w0) xv0 3 vL x0):Calls Tryz.prog 217 [xv0].toArray w0 (Ret fun v w=>v=.agg #[.int .i64 res.k,.int .i64 res.n,S res.s]∧Ext w0 w):=by
 refine en func217 [0] [_] fun Q a Zi Z hzs H h hr=>?_
 have rp0:=rp0.sub hzs
 clear hzs
 unfold lists_Average at hS
 refine rg fun K k=>zA h H V26 O3 (fun x=>[x]) fun a p1 w X H h=>?_
 refine cz k<|rg fun K k=>cps 1 h rfl fun a h=>sC h H hS rfl (fun y2 f2=>dC call214 (lists_Sum_ok f2 (rp0.hz H.zin) :)) fun y2 hS w X H a h=>?_
 refine zA h H V26 O3 (fun x=>[_,x]) fun a p3 w X H h=>?_
 refine zS h H 1 Z26 O3 O3 O2 fun w H=>?_
 refine cz k<|rg fun K k=>cps 1 h rfl fun a h=>?_
 obtain ⟨y4,f4,hS⟩:=bo hS
 refine z_callR (data:=y4) h H rfl rfl rfl (dC call241 (lists_numbers_ok (x0:=x0) f4 (rp0.hz H.zin))) fun v8_5 Z w hsub X H r8_5 a h=>?_
 have rp0:=rp0.sub hsub
 refine s1 h rfl (v_len U231 rfl (r8_5.at H.zin)) fun a h=>cps 1 h rfl fun a h=>cN k h [2,3,4] O3 fun h=>?_
 refine sq<|rg fun K k=>cps 1 h rfl fun a h=>sB h hS rfl (v_eq rfl rfl) fun z7 e7 hS a h=>cz k<|cI h hS rfl (fun ec8 hS=>?_) fun ec8 hS=>?_
 refine rg fun K k=>sC h H hS rfl (fun y9 f9=>dC call21 (value_Fail_ok f9 :)) fun y9 hS w X H a h=>?_
 refine zS h H 0 Z26 O3 O3 O2 fun w H=>?_
 refine cN k h [2] [_] fun h=>?_
 cases hS
 refine r1 hr h rfl (rvA H 0 A26 Z26 O3) ⟨rfl,H.out⟩
 refine c_skip<|sq<|rg fun K k=>s1 h rfl (v_fieldAddr rfl U26 rfl Z3 rfl rfl) fun a h=>s1 h rfl (l1 H 1 A3) fun a h=>sB h hS rfl (v_eq rfl rfl) fun z11 e11 hS a h=>cN k h [2,3,4,15] O4 fun h=>?_
 refine cI h hS rfl (fun ec12 hS=>?_) fun ec12 hS=>?_
 refine rg fun K k=>s1 h rfl (lA H 1 A26 Z26 O3) fun a h=>zS h H 0 Z26 O3 O3 O2 fun w H=>?_
 refine cN k h [2] [_] fun h=>?_
 cases hS
 refine r1 hr h rfl (rvA H 0 A26 Z26 O3) ⟨rfl,H.out⟩
 refine c_skip<|rg fun K k=>s1 h rfl (v_fieldAddr rfl U26 rfl Z2 rfl rfl) fun a h=>s1 h rfl (l1 H 1 A2) fun a h=>cps 1 h rfl fun a h=>sI h hS rfl (v_mulw rfl rfl) fun z13 e13 hS a h=>sC h H hS rfl (fun y14 f14=>dC call117 (num_Quo_ok f14 :)) fun y14 hS w X H a h=>?_
 refine cps 2 h rfl fun a h=>sC h H hS rfl (fun y15 f15=>dC call116 (value_Made_ok f15 :)) fun y15 hS w X H a h=>?_
 refine zS h H 0 Z26 O3 O3 O2 fun w H=>?_
 refine cN k h [2] [_] fun h=>?_
 cases hS
 refine r1 hr h rfl (rvA H 0 A26 Z26 O3) ⟨rfl,H.out⟩
theorem maths_One_ok {x0:List UInt8} {x1:Int} {res:V} {w0:World} (hS:maths_One x0 x1=some res):Calls Tryz.prog 164 [S x0,.int .i64 x1].toArray w0 (Ret fun v w=>v=.agg #[.int .i64 res.k,.int .i64 res.n,S res.s]∧Ext w0 w):=by
 refine en func164 [0,1] O2 fun Q a Zi Z hzs H h hr=>?_
 clear hzs
 unfold maths_One at hS
 refine rg fun K k=>zA h H V26 O3 (fun x=>[x]) fun a p1 w X H h=>?_
 refine cz k ?_
 obtain ⟨J3,eJ3,hS⟩:=bv hS
 refine sqJ (fun a w=>∃ (Z:FZ) (s3:Int × Int × (List UInt8)),J3 s3=some res∧Fr 68 [(4,(pt p1))] a∧HZ w0 Zi Z [.blk p1 (Cel [.int .i64 s3.1,.int .i64 s3.2.1,S s3.2.2] 26)] w) ?_ ?_
 rintro a w ⟨Z,s3,hS,h,H⟩
 subst eJ3
 refine rg fun K k=>sC h H hS rfl (fun y4 f4=>dC call21 (value_Fail_ok f4 :)) fun y4 hS w X H a h=>?_
 refine zS h H 0 Z26 O3 O3 [_] fun w H=>?_
 refine cz k ?_
 cases hS
 refine r1 hr h rfl (rvA H 0 A26 Z26 O3) ⟨rfl,H.out⟩
 refine rg fun K k=>cps 1 h rfl fun a h=>cz k<|lb<|rg fun K k=>sB h hS rfl (v_seq rfl rfl) fun z6 e6 hS a h=>cps 1 h rfl fun a h=>cz k<|cI h hS rfl (fun ec7 hS=>?_) fun ec7 hS=>?_
 refine rg fun K k=>cps 2 h rfl fun a h=>sI h hS rfl (v_negw rfl) fun z8 e8 hS a h=>sI h hS rfl (v_max U2 rfl rfl) fun z9 e9 hS a h=>sC h H hS rfl (fun y10 f10=>dC call14 (value_Num_ok f10 :)) fun y10 hS w X H a h=>?_
 refine zS h H 0 Z26 O3 O3 [_] fun w H=>?_
 refine cN k h [4] [_] fun h=>?_
 cases hS
 refine r1 hr h rfl (rvA H 0 A26 Z26 O3) ⟨rfl,H.out⟩
 refine rg fun K k=>sB h hS rfl (v_seq rfl rfl) fun z11 e11 hS a h=>cps 1 h rfl fun a h=>cz k<|cI h hS rfl (fun ec12 hS=>?_) fun ec12 hS=>?_
 refine rg fun K k=>cps 1 h rfl fun a h=>sI h hS rfl (v_max U2 rfl rfl) fun z13 e13 hS a h=>sI h hS rfl (v_min U2 rfl rfl) fun z14 e14 hS a h=>sC h H hS rfl (fun y15 f15=>dC call198 (maths_back_ok f15 :)) fun y15 hS w X H a h=>?_
 refine zS h H 0 Z26 O3 O3 [_] fun w H=>?_
 refine cN k h [4] [_] fun h=>?_
 cases hS
 refine r1 hr h rfl (rvA H 0 A26 Z26 O3) ⟨rfl,H.out⟩
 refine rg fun K k=>sB h hS rfl (v_seq rfl rfl) fun z16 e16 hS a h=>cps 1 h rfl fun a h=>cN k h [0,1,4,8,22] O5 fun h=>?_
 refine cI h hS rfl (fun ec17 hS=>?_) fun ec17 hS=>?_
 refine rg fun K k=>cps 1 h rfl fun a h=>sC h H hS rfl (fun y18 f18=>dC call199 (num_Floor_ok f18 :)) fun y18 hS w X H a h=>?_
 refine cps 2 h rfl fun a h=>sC h H hS rfl (fun y19 f19=>dC call116 (value_Made_ok f19 :)) fun y19 hS w X H a h=>?_
 refine zS h H 0 Z26 O3 O3 [_] fun w H=>?_
 refine cN k h [4] [_] fun h=>?_
 cases hS
 refine r1 hr h rfl (rvA H 0 A26 Z26 O3) ⟨rfl,H.out⟩
 refine rg fun K k=>sB h hS rfl (v_seq rfl rfl) fun z20 e20 hS a h=>cps 1 h rfl fun a h=>cz k<|cI h hS rfl (fun ec21 hS=>?_) fun ec21 hS=>?_
 refine rg fun K k=>cps 2 h rfl fun a h=>sI h hS rfl (v_rem rfl rfl (by decide)) fun z22 e22 hS a h=>sI h hS rfl (v_subw rfl rfl) fun z23 e23 hS a h=>sC h H hS rfl (fun y24 f24=>dC call14 (value_Num_ok f24 :)) fun y24 hS w X H a h=>?_
 refine zS h H 0 Z26 O3 O3 [_] fun w H=>?_
 refine cN k h [4] [_] fun h=>?_
 cases hS
 refine r1 hr h rfl (rvA H 0 A26 Z26 O3) ⟨rfl,H.out⟩
 obtain ⟨J26,eJ26,hS⟩:=bv hS
 refine sqJ (fun a w=>∃ (Z:FZ) (s26:Bool),J26 s26=some res∧Fr 68 [(0,S x0),(1,.int .i64 x1),(4,(pt p1)),(8,S x0),(36,.bool s26)] a∧HZ w0 Zi Z [.blk p1 (Cel [.int .i64 0,.int .i64 0,S []] 26)] w) ?_ ?_
 rintro a w ⟨Z,s26,hS,h,H⟩
 subst eJ26
 refine cI h hS rfl (fun ec27 hS=>?_) fun ec27 hS=>?_
 refine rg fun K k=>cps 2 h rfl fun a h=>sB h hS rfl (v_seq rfl rfl) fun z28 e28 hS a h=>sC h H hS rfl (fun y29 f29=>dC call200 (maths_away_ok f29 :)) fun y29 hS w X H a h=>?_
 refine zS h H 0 Z26 O3 O3 [_] fun w H=>?_
 refine cN k h [4] [_] fun h=>?_
 cases hS
 refine r1 hr h rfl (rvA H 0 A26 Z26 O3) ⟨rfl,H.out⟩
 refine rg fun K k=>sB h hS rfl (v_seq rfl rfl) fun z30 e30 hS a h=>cps 1 h rfl fun a h=>cN k h [1,4,43] O3 fun h=>?_
 refine cI h hS rfl (fun ec31 hS=>?_) fun ec31 hS=>?_
 refine rg fun K k=>cps 1 h rfl fun a h=>z_slice (enc:=(eI .i64)) ([x1]:List (Int)) h H U231 Z2 zeroValue2 rfl (zl:=[.int .i64 0]) kR (plA_get 1 1) [_] [_] rfl rfl rfl rfl rfl fun a v46_32 Z w hsub X H r46_32 h=>?_
 obtain ⟨y33,f33,hS⟩:=bo hS
 refine z_callR (data:=y33) h H rfl rfl rfl (dC call201 (maths_whole_ok (x0:=[x1]) f33 (r46_32.hz H.zin))) fun v47_34 Z w hsub X H r47_34 a h=>?_
 have r46_32:=r46_32.sub hsub
 obtain ⟨c35,hS⟩:=ck hS
 obtain ⟨z36,e36,hS⟩:=bv hS
 refine st_idx h U231 Z2 rfl rfl (r47_34.at H.zin) (fun _=>rfl) z36 c35.1 (by rw [e36];exact gel_some c35) rfl fun a v48 A48 h=>?_
 refine s1 h rfl (v_loadAt1 rfl A48 A2 rfl) fun a h=>cps 1 h rfl fun a h=>cN k h [4,5] O2 fun h=>?_
 refine sq<|rg fun K k=>cps 1 h rfl fun a h=>sB h hS rfl (v_lt rfl rfl) fun z38 e38 hS a h=>cps 1 h rfl fun a h=>st_g h rfl rfl (gF rfl) rfl rfl (fun e0=>v_move rfl) fun a h=>?_
 obtain ⟨z39,e39,hS⟩:=bv hS
 refine st_g h rfl rfl (gF rfl) rfl rfl (fun e0=>vB e39 (v_gt (eg e0 rfl) rfl)) fun a h=>?_
 refine sB h hS rfl (v_or rfl rfl) fun z40 e40 hS a h=>cN k h [4,5,55] O3 fun h=>?_
 refine cI h hS rfl (fun ec41 hS=>?_) fun ec41 hS=>?_
 refine rg fun K k=>sC h H hS rfl (fun y42 f42=>dC call21 (value_Fail_ok f42 :)) fun y42 hS w X H a h=>?_
 refine zS h H 0 Z26 O3 O3 [_] fun w H=>?_
 refine cz k ?_
 cases hS
 refine r1 hr h rfl (rvA H 0 A26 Z26 O3) ⟨rfl,H.out⟩
 refine c_skip<|rg fun K k=>cps 1 h rfl fun a h=>cz k ?_
 obtain ⟨J44,eJ44,hS⟩:=bv hS
 refine sqJ (fun a w=>∃ (Z:FZ) (s44:Int),J44 s44=some res∧Fr 68 [(4,(pt p1)),(6,.int .i64 s44)] a∧HZ w0 Zi Z [.blk p1 (Cel [.int .i64 0,.int .i64 0,S []] 26)] w) ?_ ?_
 rintro a w ⟨Z,s44,hS,h,H⟩
 subst eJ44
 refine rg fun K k=>cps 1 h rfl fun a h=>sC h H hS rfl (fun y45 f45=>dC call198 (maths_back_ok f45 :)) fun y45 hS w X H a h=>?_
 refine zS h H 0 Z26 O3 O3 [_] fun w H=>?_
 refine cz k ?_
 cases hS
 refine r1 hr h rfl (rvA H 0 A26 Z26 O3) ⟨rfl,H.out⟩
 refine rg fun K k=>cps 1 h rfl fun a h=>cz k<|lb ?_
 obtain ⟨B47,eB47,hS⟩:=bv hS
 refine lpJ (fun mu_ a w=>∃ (Z:FZ) (s47:Int × Int),loopF B47 mu_ s47=some res∧Fr 68 [(4,(pt p1)),(5,.int .i64 z36),(6,.int .i64 s47.1),(7,.int .i64 s47.2)] a∧HZ w0 Zi Z [.blk p1 (Cel [.int .i64 0,.int .i64 0,S []] 26)] w) KK ⟨_,_,hS,h.to,H⟩ ?_
 rintro mu_ a w ⟨Z,s47,hS,h,H⟩
 obtain ⟨mu_,rfl,n47,en47,hS⟩:=lpX eB47 hS
 refine sq<|rg fun K k=>cps 2 h rfl fun a h=>sB h hS rfl (v_le rfl rfl) fun z50 e50 hS a h=>cz k<|cI h hS rfl (fun ec51 hS=>?_) fun ec51 hS=>?_
 refine c_skip<|sb ?_
 refine c_lregion<|cps 2 h rfl fun a h=>sI h hS rfl (v_mulw rfl rfl) fun z53 e53 hS a h=>cps 1 h rfl fun a h=>c_lnil<|cO h [4,5,6,7] O4 fun h=>?_
 refine c_lregion<|cps 1 h rfl fun a h=>sI h hS rfl (v_addw rfl rfl) fun z54 e54 hS a h=>cps 1 h rfl fun a h=>c_lnil ?_
 exact exL (ex2 ⟨lpN en47 hS,h.to,H⟩)
 exact c_exit (ex2 ⟨hS,h.to,H⟩)
 exact c_skip (ex2 ⟨hS,h.to,H⟩)
 refine rg fun K k=>sB h hS rfl (v_seq rfl rfl) fun z55 e55 hS a h=>cps 1 h rfl fun a h=>cN k h [0,1,4,8,36] O5 fun h=>?_
 refine cI h hS rfl (fun ec56 hS=>?_) fun ec56 hS=>?_
 exact c_skip (ex2 ⟨hS,h.to,H⟩)
 refine c_lregion<|sB h hS rfl (v_seq rfl rfl) fun z57 e57 hS a h=>cps 1 h rfl fun a h=>c_lnil ?_
 exact ex2 ⟨hS,h.to,H⟩
theorem maths_Two_ok {x0:List UInt8} {x1:Int} {x2:Int} {res:V} {w0:World} (hS:maths_Two x0 x1 x2=some res):Calls Tryz.prog 165 [S x0,.int .i64 x1,.int .i64 x2].toArray w0 (Ret fun v w=>v=.agg #[.int .i64 res.k,.int .i64 res.n,S res.s]∧Ext w0 w):=by
 refine en func165 [0,1,2] O3 fun Q a Zi Z hzs H h hr=>?_
 clear hzs
 unfold maths_Two at hS
 refine rg fun K k=>zA h H V26 O3 (fun x=>[x]) fun a p1 w X H h=>?_
 refine cz k<|rg fun K k=>cps 2 h rfl fun a h=>z_slice (enc:=(eI .i64)) ([x1,x2]:List (Int)) h H U231 Z2 zeroValue2 rfl (zl:=[.int .i64 0,.int .i64 0]) kR (plA_get 2 1) O2 O2 rfl rfl rfl rfl rfl fun a v13_2 Z w hsub X H r13_2 h=>?_
 obtain ⟨y3,f3,hS⟩:=bo hS
 refine z_callR (data:=y3) h H rfl rfl rfl (dC call201 (maths_whole_ok (x0:=[x1,x2]) f3 (r13_2.hz H.zin))) fun v14_4 Z w hsub X H r14_4 a h=>?_
 have r13_2:=r13_2.sub hsub
 refine cps 1 h rfl fun a h=>cN k h [0,1,2,6,7] O5 fun h=>?_
 refine sq<|rg fun K k=>cps 1 h rfl fun a h=>cz k<|lb<|rg fun K k=>sB h hS rfl (v_seq rfl rfl) fun z7 e7 hS a h=>cps 1 h rfl fun a h=>cz k<|cI h hS rfl (fun ec8 hS=>?_) fun ec8 hS=>?_
 refine sq<|rg fun K k=>cps 1 h rfl fun a h=>?_
 obtain ⟨c10,hS⟩:=ck hS
 obtain ⟨z11,e11,hS⟩:=bv hS
 refine st_idx h U231 Z2 rfl rfl (r14_4.at H.zin) (fun _=>rfl) z11 c10.1 (by rw [e11];exact gel_some c10) rfl fun a v19 A19 h=>?_
 refine s1 h rfl (v_loadAt1 rfl A19 A2 rfl) fun a h=>sB h hS rfl (v_lt rfl rfl) fun z12 e12 hS a h=>cps 1 h rfl fun a h=>st_g h rfl rfl (gF rfl) rfl rfl (fun e0=>v_move rfl) fun a h=>?_
 obtain ⟨c13,hS⟩:=ck hS
 obtain ⟨z14,e14,hS⟩:=bv hS
 refine st_idxG h rfl (gF rfl) U231 Z2 (fun e0=>(eg e0 rfl)) (fun e0=>rfl) (r14_4.at H.zin) (fun _=>rfl) z14 (fun e0=>(c13 e0).1) (fun e0=>(by rw [e14];exact gel_some (c13 e0))) rfl fun a v24 A24 h=>?_
 refine st_g h rfl rfl (gF rfl) rfl rfl (fun e0=>v_loadAt1 (eg e0 rfl) (A24 e0) A2 rfl) fun a h=>?_
 obtain ⟨z15,e15,hS⟩:=bv hS
 refine st_g h rfl rfl (gF rfl) rfl rfl (fun e0=>vB e15 (v_gt (eg e0 rfl) rfl)) fun a h=>?_
 refine sB h hS rfl (v_or rfl rfl) fun z16 e16 hS a h=>cN k h [1,6,7,27] O4 fun h=>?_
 refine cI h hS rfl (fun ec17 hS=>?_) fun ec17 hS=>?_
 refine rg fun K k=>sC h H hS rfl (fun y18 f18=>dC call21 (value_Fail_ok f18 :)) fun y18 hS w X H a h=>?_
 refine zS h H 0 Z26 O3 O3 [_] fun w H=>?_
 refine cN k h [6] [_] fun h=>?_
 cases hS
 refine r1 hr h rfl (rvA H 0 A26 Z26 O3) ⟨rfl,H.out⟩
 refine c_skip<|rg fun K k=>cps 2 h rfl fun a h=>?_
 obtain ⟨c19,hS⟩:=ck hS
 obtain ⟨z20,e20,hS⟩:=bv hS
 refine st_idx h U231 Z2 rfl rfl (r14_4.at H.zin) (fun _=>rfl) z20 c19.1 (by rw [e20];exact gel_some c19) rfl fun a v31 A31 h=>?_
 refine s1 h rfl (v_loadAt1 rfl A31 A2 rfl) fun a h=>sC h H hS rfl (fun y21 f21=>dC call202 (maths_round_ok f21 :)) fun y21 hS w X H a h=>?_
 have A31:=At.ext A31 X
 refine zS h H 0 Z26 O3 O3 [_] fun w H=>?_
 refine cN k h [6] [_] fun h=>?_
 cases hS
 refine r1 hr h rfl (rvA H 0 A26 Z26 O3) ⟨rfl,H.out⟩
 refine rg fun K k=>sB h hS rfl (v_seq rfl rfl) fun z22 e22 hS a h=>cps 1 h rfl fun a h=>cz k<|cI h hS rfl (fun ec23 hS=>?_) fun ec23 hS=>?_
 refine sq<|rg fun K k=>cps 1 h rfl fun a h=>sB h hS rfl (v_eq rfl rfl) fun z25 e25 hS a h=>cN k h [1,2,6,37] O4 fun h=>?_
 refine cI h hS rfl (fun ec26 hS=>?_) fun ec26 hS=>?_
 refine rg fun K k=>sC h H hS rfl (fun y27 f27=>dC call21 (value_Fail_ok f27 :)) fun y27 hS w X H a h=>?_
 refine zS h H 0 Z26 O3 O3 [_] fun w H=>?_
 refine cN k h [6] [_] fun h=>?_
 cases hS
 refine r1 hr h rfl (rvA H 0 A26 Z26 O3) ⟨rfl,H.out⟩
 refine c_skip<|rg fun K k=>cps 2 h rfl fun a h=>?_
 obtain ⟨c28,hS⟩:=ck hS
 refine sI h hS rfl (v_rem rfl rfl c28) fun z29 e29 hS a h=>cps 1 h rfl fun a h=>cN k h [2,6,8] O3 fun h=>?_
 obtain ⟨J31,eJ31,hS⟩:=bv hS
 refine sqJ (fun a w=>∃ (Z:FZ) (s31:Int),J31 s31=some res∧Fr 142 [(6,(pt p1)),(8,.int .i64 s31)] a∧HZ w0 Zi Z [.blk p1 (Cel [.int .i64 0,.int .i64 0,S []] 26)] w) ?_ ?_
 rintro a w ⟨Z,s31,hS,h,H⟩
 subst eJ31
 refine rg fun K k=>cps 1 h rfl fun a h=>sC h H hS rfl (fun y32 f32=>dC call14 (value_Num_ok f32 :)) fun y32 hS w X H a h=>?_
 refine zS h H 0 Z26 O3 O3 [_] fun w H=>?_
 refine cz k ?_
 cases hS
 refine r1 hr h rfl (rvA H 0 A26 Z26 O3) ⟨rfl,H.out⟩
 refine rg fun K k=>cps 1 h rfl fun a h=>sB h hS rfl (v_ne rfl rfl) fun z33 e33 hS a h=>cps 1 h rfl fun a h=>st_g h rfl rfl (gT rfl) rfl rfl (fun e0=>v_move rfl) fun a h=>?_
 obtain ⟨z34,e34,hS⟩:=bv hS
 refine st_g h rfl rfl (gT rfl) rfl rfl (fun e0=>vB e34 (v_lt (eg e0 rfl) rfl)) fun a h=>?_
 refine st_g h rfl rfl (gT rfl) rfl rfl (fun e0=>v_move rfl) fun a h=>?_
 obtain ⟨z35,e35,hS⟩:=bv hS
 refine st_g h rfl rfl (gT rfl) rfl rfl (fun e0=>vB e35 (v_lt (eg e0 rfl) rfl)) fun a h=>?_
 obtain ⟨z36,e36,hS⟩:=bv hS
 refine st_g h rfl rfl (gT rfl) rfl rfl (fun e0=>vB e36 (v_bne U4 (eg e0 rfl) (eg e0 rfl))) fun a h=>?_
 refine sB h hS rfl (v_and rfl rfl) fun z37 e37 hS a h=>cN k h [2,6,8,50] O4 fun h=>?_
 refine cI h hS rfl (fun ec38 hS=>?_) fun ec38 hS=>?_
 refine c_lregion<|cps 2 h rfl fun a h=>sI h hS rfl (v_addw rfl rfl) fun z39 e39 hS a h=>cps 1 h rfl fun a h=>c_lnil ?_
 exact ex2 ⟨hS,h.to,H⟩
 exact c_skip (ex2 ⟨hS,h.to,H⟩)
 refine rg fun K k=>sB h hS rfl (v_seq rfl rfl) fun z40 e40 hS a h=>cps 1 h rfl fun a h=>cN k h [0,1,2,6,7,15,56] O7 fun h=>?_
 refine cI h hS rfl (fun ec41 hS=>?_) fun ec41 hS=>?_
 refine sq<|rg fun K k=>cps 1 h rfl fun a h=>sI h hS rfl (v_rem rfl rfl (by decide)) fun z43 e43 hS a h=>sB h hS rfl (v_ne rfl rfl) fun z44 e44 hS a h=>cps 1 h rfl fun a h=>st_g h rfl rfl (gF rfl) rfl rfl (fun e0=>v_move rfl) fun a h=>?_
 obtain ⟨c45,hS⟩:=ck hS
 obtain ⟨z46,e46,hS⟩:=bv hS
 refine st_idxG h rfl (gF rfl) U231 Z2 (fun e0=>(eg e0 rfl)) (fun e0=>rfl) (r14_4.at H.zin) (fun _=>rfl) z46 (fun e0=>(c45 e0).1) (fun e0=>(by rw [e46];exact gel_some (c45 e0))) rfl fun a v63 A63 h=>?_
 refine st_g h rfl rfl (gF rfl) rfl rfl (fun e0=>v_loadAt1 (eg e0 rfl) (A63 e0) A2 rfl) fun a h=>?_
 obtain ⟨z47,e47,hS⟩:=bv hS
 refine st_g h rfl rfl (gF rfl) rfl rfl (fun e0=>vB e47 (v_lt (eg e0 rfl) rfl)) fun a h=>?_
 refine sB h hS rfl (v_or rfl rfl) fun z48 e48 hS a h=>cps 1 h rfl fun a h=>st_g h rfl rfl (gF rfl) rfl rfl (fun e0=>v_move rfl) fun a h=>?_
 obtain ⟨c49,hS⟩:=ck hS
 obtain ⟨z50,e50,hS⟩:=bv hS
 refine st_idxG h rfl (gF rfl) U231 Z2 (fun e0=>(eg e0 rfl)) (fun e0=>rfl) (r14_4.at H.zin) (fun _=>rfl) z50 (fun e0=>(c49 e0).1) (fun e0=>(by rw [e50];exact gel_some (c49 e0))) rfl fun a v69 A69 h=>?_
 refine st_g h rfl rfl (gF rfl) rfl rfl (fun e0=>v_loadAt1 (eg e0 rfl) (A69 e0) A2 rfl) fun a h=>?_
 obtain ⟨z51,e51,hS⟩:=bv hS
 refine st_g h rfl rfl (gF rfl) rfl rfl (fun e0=>vB e51 (v_gt (eg e0 rfl) rfl)) fun a h=>?_
 refine sB h hS rfl (v_or rfl rfl) fun z52 e52 hS a h=>cN k h [1,6,7,72] O4 fun h=>?_
 refine cI h hS rfl (fun ec53 hS=>?_) fun ec53 hS=>?_
 refine rg fun K k=>sC h H hS rfl (fun y54 f54=>dC call21 (value_Fail_ok f54 :)) fun y54 hS w X H a h=>?_
 refine zS h H 0 Z26 O3 O3 [_] fun w H=>?_
 refine cN k h [6] [_] fun h=>?_
 cases hS
 refine r1 hr h rfl (rvA H 0 A26 Z26 O3) ⟨rfl,H.out⟩
 refine c_skip<|rg fun K k=>cps 2 h rfl fun a h=>?_
 obtain ⟨c55,hS⟩:=ck hS
 obtain ⟨z56,e56,hS⟩:=bv hS
 refine st_idx h U231 Z2 rfl rfl (r14_4.at H.zin) (fun _=>rfl) z56 c55.1 (by rw [e56];exact gel_some c55) rfl fun a v76 A76 h=>?_
 refine s1 h rfl (v_loadAt1 rfl A76 A2 rfl) fun a h=>sC h H hS rfl (fun y57 f57=>dC call203 (maths_power_ok f57 :)) fun y57 hS w X H a h=>?_
 have A76:=At.ext A76 X
 refine zS h H 0 Z26 O3 O3 [_] fun w H=>?_
 refine cN k h [6] [_] fun h=>?_
 cases hS
 refine r1 hr h rfl (rvA H 0 A26 Z26 O3) ⟨rfl,H.out⟩
 refine rg fun K k=>sB h hS rfl (v_seq rfl rfl) fun z58 e58 hS a h=>cps 1 h rfl fun a h=>cz k<|cI h hS rfl (fun ec59 hS=>?_) fun ec59 hS=>?_
 refine sq<|rg fun K k=>cps 1 h rfl fun a h=>sB h hS rfl (v_eq rfl rfl) fun z61 e61 hS a h=>cN k h [1,2,6,82] O4 fun h=>?_
 refine cI h hS rfl (fun ec62 hS=>?_) fun ec62 hS=>?_
 refine rg fun K k=>sC h H hS rfl (fun y63 f63=>dC call21 (value_Fail_ok f63 :)) fun y63 hS w X H a h=>?_
 refine zS h H 0 Z26 O3 O3 [_] fun w H=>?_
 refine cN k h [6] [_] fun h=>?_
 cases hS
 refine r1 hr h rfl (rvA H 0 A26 Z26 O3) ⟨rfl,H.out⟩
 refine c_skip<|rg fun K k=>cps 2 h rfl fun a h=>?_
 obtain ⟨c64,hS⟩:=ck hS
 refine sI h hS rfl (v_quow rfl rfl c64) fun z65 e65 hS a h=>sC h H hS rfl (fun y66 f66=>dC call198 (maths_back_ok f66 :)) fun y66 hS w X H a h=>?_
 refine zS h H 0 Z26 O3 O3 [_] fun w H=>?_
 refine cN k h [6] [_] fun h=>?_
 cases hS
 refine r1 hr h rfl (rvA H 0 A26 Z26 O3) ⟨rfl,H.out⟩
 obtain ⟨J68,eJ68,hS⟩:=bv hS
 refine sqJ (fun a w=>∃ (Z:FZ) (s68:Bool),J68 s68=some res∧Fr 142 [(0,S x0),(6,(pt p1)),(7,v14_4),(88,.bool s68)] a∧HZ w0 Zi Z [.blk p1 (Cel [.int .i64 0,.int .i64 0,S []] 26)] w∧RdZ Z v14_4 1 (eI .i64) y3) ?_ ?_
 rintro a w ⟨Z,s68,hS,h,H,r14_4⟩
 subst eJ68
 refine cI h hS rfl (fun ec69 hS=>?_) fun ec69 hS=>?_
 refine sq<|rg fun K k=>cps 1 h rfl fun a h=>?_
 obtain ⟨c71,hS⟩:=ck hS
 obtain ⟨z72,e72,hS⟩:=bv hS
 refine st_idx h U231 Z2 rfl rfl (r14_4.at H.zin) (fun _=>rfl) z72 c71.1 (by rw [e72];exact gel_some c71) rfl fun a v92 A92 h=>?_
 refine s1 h rfl (v_loadAt1 rfl A92 A2 rfl) fun a h=>sB h hS rfl (v_lt rfl rfl) fun z73 e73 hS a h=>cps 1 h rfl fun a h=>st_g h rfl rfl (gF rfl) rfl rfl (fun e0=>v_move rfl) fun a h=>?_
 obtain ⟨c74,hS⟩:=ck hS
 obtain ⟨z75,e75,hS⟩:=bv hS
 refine st_idxG h rfl (gF rfl) U231 Z2 (fun e0=>(eg e0 rfl)) (fun e0=>rfl) (r14_4.at H.zin) (fun _=>rfl) z75 (fun e0=>(c74 e0).1) (fun e0=>(by rw [e75];exact gel_some (c74 e0))) rfl fun a v97 A97 h=>?_
 refine st_g h rfl rfl (gF rfl) rfl rfl (fun e0=>v_loadAt1 (eg e0 rfl) (A97 e0) A2 rfl) fun a h=>?_
 obtain ⟨z76,e76,hS⟩:=bv hS
 refine st_g h rfl rfl (gF rfl) rfl rfl (fun e0=>vB e76 (v_lt (eg e0 rfl) rfl)) fun a h=>?_
 refine sB h hS rfl (v_or rfl rfl) fun z77 e77 hS a h=>cN k h [0,6,7,100] O4 fun h=>?_
 refine cI h hS rfl (fun ec78 hS=>?_) fun ec78 hS=>?_
 refine rg fun K k=>sC h H hS rfl (fun y79 f79=>dC call21 (value_Fail_ok f79 :)) fun y79 hS w X H a h=>?_
 refine zS h H 0 Z26 O3 O3 [_] fun w H=>?_
 refine cN k h [6] [_] fun h=>?_
 cases hS
 refine r1 hr h rfl (rvA H 0 A26 Z26 O3) ⟨rfl,H.out⟩
 refine c_skip<|fl h ?_
 refine fcps 1 rfl ?_
 obtain ⟨c80,hS⟩:=ck hS
 obtain ⟨z81,e81,hS⟩:=bv hS
 refine f_op [102] rfl rfl rfl rfl false (.rel (fun w' v'=>At w' v' (eI .i64) z81 0)) at_stab (fun w X=>?_) ?_
 skip
 exact have H:=H.ext X;d_idx U231 Z2 rfl rfl (r14_4.at H.zin) (fun _=>rfl) z81 c80.1 (by rw [e81];exact gel_some c80)
 refine f_op [103] rfl rfl rfl rfl false (.eq (.int .i64 z81)) trivial (fun w X=>?_) ?_
 intro v103 h103
 exact (v_loadAt1 rfl h103 A2 rfl).doesF
 refine fcps 1 rfl ?_
 obtain ⟨c82,hS⟩:=ck hS
 obtain ⟨z83,e83,hS⟩:=bv hS
 refine f_op [105] rfl rfl rfl rfl false (.rel (fun w' v'=>At w' v' (eI .i64) z83 0)) at_stab (fun w X=>?_) ?_
 skip
 exact have H:=H.ext X;d_idx U231 Z2 rfl rfl (r14_4.at H.zin) (fun _=>rfl) z83 c82.1 (by rw [e83];exact gel_some c82)
 refine f_op [106] rfl rfl rfl rfl false (.eq (.int .i64 z83)) trivial (fun w X=>?_) ?_
 intro v106 h106
 exact (v_loadAt1 rfl h106 A2 rfl).doesF
 refine fC hS rfl (fun y84 f84 w X=>dC call204 (maths_gcd_ok f84 :)) fun y84 hS=>?_
 refine fcps 1 rfl ?_
 refine fE [0,6,7,9] O4 H fun a w X H h=>?_
 refine sq<|rg fun K k=>cps 1 h rfl fun a h=>sB h hS rfl (v_seq rfl rfl) fun z86 e86 hS a h=>cps 1 h rfl fun a h=>st_g h rfl rfl (gF rfl) rfl rfl (fun e0=>v_move rfl) fun a h=>?_
 obtain ⟨z87,e87,hS⟩:=bv hS
 refine st_g h rfl rfl (gF rfl) rfl rfl (fun e0=>vB e87 (v_eq (eg e0 rfl) rfl)) fun a h=>?_
 refine sB h hS rfl (v_or rfl rfl) fun z88 e88 hS a h=>cN k h [6,7,9,114] O4 fun h=>?_
 refine cI h hS rfl (fun ec89 hS=>?_) fun ec89 hS=>?_
 refine rg fun K k=>cps 1 h rfl fun a h=>sC h H hS rfl (fun y90 f90=>dC call198 (maths_back_ok f90 :)) fun y90 hS w X H a h=>?_
 refine zS h H 0 Z26 O3 O3 [_] fun w H=>?_
 refine cN k h [6] [_] fun h=>?_
 cases hS
 refine r1 hr h rfl (rvA H 0 A26 Z26 O3) ⟨rfl,H.out⟩
 refine c_skip<|rg fun K k=>cps 1 h rfl fun a h=>?_
 obtain ⟨c91,hS⟩:=ck hS
 obtain ⟨z92,e92,hS⟩:=bv hS
 refine st_idx h U231 Z2 rfl rfl (r14_4.at H.zin) (fun _=>rfl) z92 c91.1 (by rw [e92];exact gel_some c91) rfl fun a v118 A118 h=>?_
 refine s1 h rfl (v_loadAt1 rfl A118 A2 rfl) fun a h=>cps 1 h rfl fun a h=>?_
 obtain ⟨c93,hS⟩:=ck hS
 refine sI h hS rfl (v_quow rfl rfl c93) fun z94 e94 hS a h=>cps 1 h rfl fun a h=>cN k h [6,7,10] O3 fun h=>?_
 refine sq<|rg fun K k=>cps 1 h rfl fun a h=>?_
 obtain ⟨c96,hS⟩:=ck hS
 obtain ⟨z97,e97,hS⟩:=bv hS
 refine st_idx h U231 Z2 rfl rfl (r14_4.at H.zin) (fun _=>rfl) z97 c96.1 (by rw [e97];exact gel_some c96) rfl fun a v123 A123 h=>?_
 refine s1 h rfl (v_loadAt1 rfl A123 A2 rfl) fun a h=>sB h hS rfl (v_ne rfl rfl) fun z98 e98 hS a h=>cps 1 h rfl fun a h=>st_g h rfl rfl (gT rfl) rfl rfl (fun e0=>v_move rfl) fun a h=>?_
 refine st_g h rfl rfl (gT rfl) rfl rfl (fun e0=>v_move rfl) fun a h=>?_
 obtain ⟨c99,hS⟩:=ck hS
 obtain ⟨z100,e100,hS⟩:=bv hS
 refine st_idxG h rfl (gT rfl) U231 Z2 (fun e0=>(eg e0 rfl)) (fun e0=>rfl) (r14_4.at H.zin) (fun _=>rfl) z100 (fun e0=>(c99 e0).1) (fun e0=>(by rw [e100];exact gel_some (c99 e0))) rfl fun a v129 A129 h=>?_
 refine st_g h rfl rfl (gT rfl) rfl rfl (fun e0=>v_loadAt1 (eg e0 rfl) (A129 e0) A2 rfl) fun a h=>?_
 obtain ⟨c101,hS⟩:=ck hS
 obtain ⟨z102,e102,hS⟩:=bv hS
 refine st_g h rfl rfl (gT rfl) rfl rfl (fun e0=>vI e102 (v_quow rfl (eg e0 rfl) (c101 e0))) fun a h=>?_
 obtain ⟨z103,e103,hS⟩:=bv hS
 refine st_g h rfl rfl (gT rfl) rfl rfl (fun e0=>vB e103 (v_gt (eg e0 rfl) (eg e0 rfl))) fun a h=>?_
 refine sB h hS rfl (v_and rfl rfl) fun z104 e104 hS a h=>cN k h [6,7,10,133] O4 fun h=>?_
 refine cI h hS rfl (fun ec105 hS=>?_) fun ec105 hS=>?_
 refine rg fun K k=>sC h H hS rfl (fun y106 f106=>dC call21 (value_Fail_ok f106 :)) fun y106 hS w X H a h=>?_
 refine zS h H 0 Z26 O3 O3 [_] fun w H=>?_
 refine cN k h [6] [_] fun h=>?_
 cases hS
 refine r1 hr h rfl (rvA H 0 A26 Z26 O3) ⟨rfl,H.out⟩
 refine c_skip<|rg fun K k=>cps 2 h rfl fun a h=>?_
 obtain ⟨c107,hS⟩:=ck hS
 obtain ⟨z108,e108,hS⟩:=bv hS
 refine st_idx h U231 Z2 rfl rfl (r14_4.at H.zin) (fun _=>rfl) z108 c107.1 (by rw [e108];exact gel_some c107) rfl fun a v137 A137 h=>?_
 refine s1 h rfl (v_loadAt1 rfl A137 A2 rfl) fun a h=>sI h hS rfl (v_mulw rfl rfl) fun z109 e109 hS a h=>sC h H hS rfl (fun y110 f110=>dC call198 (maths_back_ok f110 :)) fun y110 hS w X H a h=>?_
 have A137:=At.ext A137 X
 refine zS h H 0 Z26 O3 O3 [_] fun w H=>?_
 refine cN k h [6] [_] fun h=>?_
 cases hS
 refine r1 hr h rfl (rvA H 0 A26 Z26 O3) ⟨rfl,H.out⟩
 refine c_skip<|rg fun K k=>sC h H hS rfl (fun y111 f111=>dC call21 (value_Fail_ok f111 :)) fun y111 hS w X H a h=>?_
 refine zS h H 0 Z26 O3 O3 [_] fun w H=>?_
 refine cN k h [6] [_] fun h=>?_
 cases hS
 refine r1 hr h rfl (rvA H 0 A26 Z26 O3) ⟨rfl,H.out⟩
 refine rg fun K k=>sB h hS rfl (v_seq rfl rfl) fun z112 e112 hS a h=>cps 1 h rfl fun a h=>cN k h [0,6,7,15,88] O5 fun h=>?_
 refine cI h hS rfl (fun ec113 hS=>?_) fun ec113 hS=>?_
 exact c_skip (ex2 ⟨hS,h.to,H,r14_4⟩)
 refine c_lregion<|sB h hS rfl (v_seq rfl rfl) fun z114 e114 hS a h=>cps 1 h rfl fun a h=>c_lnil ?_
 exact ex2 ⟨hS,h.to,H,r14_4⟩
theorem texts_turned_ok {x0:List UInt8} {x1:Int} {x2:Int} {res:(List UInt8)} {w0:World} (hS:texts_turned x0 x1 x2=some res):Calls Tryz.prog 207 [S x0,.int .u8 x1,.int .u8 x2].toArray w0 (Ret fun v w=>v=S res∧Ext w0 w):=by
 refine en func207 [0,1,2] O3 fun Q a Zi Z hzs H h hr=>?_
 clear hzs
 unfold texts_turned at hS
 refine rg fun K k=>cps 1 h rfl fun a h=>cz k<|rg fun K k=>cps 1 h rfl fun a h=>z_toBytes h H U9 U22 U5 rfl rfl fun a p1 cap1 tl1 w X hcap1 H h=>?_
 obtain ⟨z2,e2,hS⟩:=bv hS
 rw [←e2] at H
 have H:HZ w0 _ _ [_] _:=H
 have lf0:z2.length=x0.length:=by rw [e2];simp [ofB]
 refine cps 1 h rfl fun a h=>cN k h [1,2,7] O3 fun h=>?_
 obtain ⟨J4,eJ4,hS⟩:=bv hS
 refine sqJ (fun a w=>∃ (Z:FZ) (s4:(List Int)),J4 s4=some res∧Fr 39 [(7,.slice (some ⟨p1,0,none⟩) x0.length cap1)] a∧HZ w0 Zi Z [.blk p1 (BRow s4 tl1 5 x0.length)] w∧s4.length=x0.length) ?_ ?_
 rintro a w ⟨Z,s4,hS,h,H,lf0⟩
 subst eJ4
 refine rg fun K k=>cps 1 h rfl fun a h=>?_
 obtain ⟨c5,hS⟩:=ck hS
 refine sS h hS rfl (v_toStrI U22 U5 U9 rfl (Reads.of_B (H.hp.get 0 rfl) lf0) c5) fun z6 e6 hS a h=>cps 1 h rfl fun a h=>cz k ?_
 cases hS
 refine r1 hr h rfl rfl ⟨rfl,H.out⟩
 refine rg fun K k=>cps 1 h rfl fun a h=>s1 h rfl (v_len U22 rfl (Reads.of_B (H.hp.get 0 rfl) lf0)) fun a h=>cps 1 h rfl fun a h=>cz k<|lb ?_
 obtain ⟨B8,eB8,hS⟩:=bv hS
 refine lpJ (fun mu_ a w=>∃ (Z:FZ) (s8:Int × (List Int)),loopF B8 mu_ s8=some res∧Fr 39 [(1,.int .u8 x1),(2,.int .u8 x2),(7,.slice (some ⟨p1,0,none⟩) x0.length cap1),(12,.slice (some ⟨p1,0,none⟩) x0.length cap1),(13,.int .i64 (z2.length:Int)),(14,.int .i64 s8.1)] a∧HZ w0 Zi Z [.blk p1 (BRow s8.2 tl1 5 x0.length)] w∧s8.2.length=x0.length) KK ⟨_,_,hS,h.to,H,lf0⟩ ?_
 rintro mu_ a w ⟨Z,s8,hS,h,H,lf0⟩
 obtain ⟨mu_,rfl,n8,en8,hS⟩:=lpX eB8 hS
 refine rg fun K k=>sB h hS rfl (v_lt rfl rfl) fun z10 e10 hS a h=>cz k<|sq<|cI h hS rfl (fun ec12 hS=>?_) fun ec12 hS=>?_
 refine c_skip<|sb ?_
 refine rg fun K k=>cps 1 h rfl fun a h=>?_
 obtain ⟨c14,hS⟩:=ck hS
 refine s1 h rfl (v_idxB (sz:=1) U22 Z5 rfl rfl lf0 c14) fun a h=>sI h hS rfl (v_loadB rfl isAgg5 (H.hp.get 0 rfl) c14) fun z15 e15 hS a h=>cps 2 h rfl fun a h=>cN k h [1,2,7,8,9,12,13,14] O8 fun h=>?_
 refine rg fun K k=>cps 2 h rfl fun a h=>sB h hS rfl (v_ge rfl rfl) fun z16 e16 hS a h=>cps 1 h rfl fun a h=>st_g h rfl rfl (gT rfl) rfl rfl (fun e0=>v_move rfl) fun a h=>?_
 refine st_g h rfl rfl (gT rfl) rfl rfl (fun e0=>v_move rfl) fun a h=>?_
 obtain ⟨z17,e17,hS⟩:=bv hS
 refine st_g h rfl rfl (gT rfl) rfl rfl (fun e0=>vI e17 (v_addw (eg e0 rfl) rfl)) fun a h=>?_
 obtain ⟨z18,e18,hS⟩:=bv hS
 refine st_g h rfl rfl (gT rfl) rfl rfl (fun e0=>vB e18 (v_le (eg e0 rfl) (eg e0 rfl))) fun a h=>?_
 refine sB h hS rfl (v_and rfl rfl) fun z19 e19 hS a h=>cN k h [1,2,7,8,9,12,13,14,27] O9 fun h=>?_
 refine cI h hS rfl (fun ec20 hS=>?_) fun ec20 hS=>?_
 refine c_lregion<|cps 4 h rfl fun a h=>sI h hS rfl (v_subw rfl rfl) fun z21 e21 hS a h=>cps 1 h rfl fun a h=>sI h hS rfl (v_addw rfl rfl) fun z22 e22 hS a h=>?_
 obtain ⟨c23,hS⟩:=ck hS
 refine s1 h rfl (v_idxB (sz:=1) U22 Z5 rfl rfl lf0 c23) fun a h=>?_
 obtain ⟨zb0_24,ezb0_24,hS⟩:=bv hS
 refine z_storeB (i:=0) h H 0 rfl rfl rfl Z5 lf0 c23 (hl':=[_]) rfl fun w H=>?_
 rw [←ezb0_24] at H
 have lf0:zb0_24.length=x0.length:=by rw [ezb0_24,List.length_set];exact lf0
 refine c_lnil<|cO h [1,2,7,12,13,14] O6 fun h=>?_
 refine c_lregion<|sI h hS rfl (v_addw rfl rfl) fun z25 e25 hS a h=>cps 1 h rfl fun a h=>c_lnil ?_
 exact exL (ex2 ⟨lpN en8 hS,h.to,H,lf0⟩)
 refine c_skip<|c_lregion<|sI h hS rfl (v_addw rfl rfl) fun z26 e26 hS a h=>cps 1 h rfl fun a h=>c_lnil ?_
 exact exL (ex2 ⟨lpN en8 hS,h.to,H,lf0⟩)
 exact c_exit (ex2 ⟨hS,h.to,H,lf0⟩)
theorem texts_One_ok {x0:List UInt8} {x1:List UInt8} {res:V} {w0:World} (hS:texts_One x0 x1=some res):Calls Tryz.prog 167 [S x0,S x1].toArray w0 (Ret fun v w=>v=.agg #[.int .i64 res.k,.int .i64 res.n,S res.s]∧Ext w0 w):=by
 refine en func167 [0,1] O2 fun Q a Zi Z hzs H h hr=>?_
 clear hzs
 unfold texts_One at hS
 refine rg fun K k=>zA h H V26 O3 (fun x=>[x]) fun a p1 w X H h=>?_
 refine cz k<|sq<|rg fun K k=>cps 1 h rfl fun a h=>cz k<|lb<|rg fun K k=>sB h hS rfl (v_seq rfl rfl) fun z4 e4 hS a h=>cps 1 h rfl fun a h=>cz k<|cI h hS rfl (fun ec5 hS=>?_) fun ec5 hS=>?_
 refine rg fun K k=>cps 1 h rfl fun a h=>sC h H hS rfl (fun y6 f6=>dC call206 (texts_runes_ok f6 :)) fun y6 hS w X H a h=>?_
 refine sC h H hS rfl (fun y7 f7=>dC call55 (num_Of_ok f7 :)) fun y7 hS w X H a h=>?_
 refine cps 2 h rfl fun a h=>sC h H hS rfl (fun y8 f8=>dC call116 (value_Made_ok f8 :)) fun y8 hS w X H a h=>?_
 refine zS h H 0 Z26 O3 O3 [_] fun w H=>?_
 refine cN k h [4] [_] fun h=>?_
 cases hS
 refine r1 hr h rfl (rvA H 0 A26 Z26 O3) ⟨rfl,H.out⟩
 refine rg fun K k=>sB h hS rfl (v_seq rfl rfl) fun z9 e9 hS a h=>cps 1 h rfl fun a h=>cN k h [1,4,5,14] O4 fun h=>?_
 refine cI h hS rfl (fun ec10 hS=>?_) fun ec10 hS=>?_
 refine rg fun K k=>cps 1 h rfl fun a h=>sC h H hS rfl (fun y11 f11=>dC call207 (texts_turned_ok f11 :)) fun y11 hS w X H a h=>?_
 refine sC h H hS rfl (fun y12 f12=>dC call28 (value_Text_ok f12 :)) fun y12 hS w X H a h=>?_
 refine zS h H 0 Z26 O3 O3 [_] fun w H=>?_
 refine cN k h [4] [_] fun h=>?_
 cases hS
 refine r1 hr h rfl (rvA H 0 A26 Z26 O3) ⟨rfl,H.out⟩
 refine rg fun K k=>sB h hS rfl (v_seq rfl rfl) fun z13 e13 hS a h=>cps 1 h rfl fun a h=>cz k<|cI h hS rfl (fun ec14 hS=>?_) fun ec14 hS=>?_
 refine rg fun K k=>cps 1 h rfl fun a h=>sC h H hS rfl (fun y15 f15=>dC call207 (texts_turned_ok f15 :)) fun y15 hS w X H a h=>?_
 refine sC h H hS rfl (fun y16 f16=>dC call28 (value_Text_ok f16 :)) fun y16 hS w X H a h=>?_
 refine zS h H 0 Z26 O3 O3 [_] fun w H=>?_
 refine cN k h [4] [_] fun h=>?_
 cases hS
 refine r1 hr h rfl (rvA H 0 A26 Z26 O3) ⟨rfl,H.out⟩
 refine rg fun K k=>sB h hS rfl (v_seq rfl rfl) fun z17 e17 hS a h=>cps 1 h rfl fun a h=>cN k h [1,4,5,24] O4 fun h=>?_
 refine cI h hS rfl (fun ec18 hS=>?_) fun ec18 hS=>?_
 refine rg fun K k=>cps 1 h rfl fun a h=>sC h H hS rfl (fun y19 f19=>dC call208 (texts_trimmed_ok f19 :)) fun y19 hS w X H a h=>?_
 refine sC h H hS rfl (fun y20 f20=>dC call28 (value_Text_ok f20 :)) fun y20 hS w X H a h=>?_
 refine zS h H 0 Z26 O3 O3 [_] fun w H=>?_
 refine cN k h [4] [_] fun h=>?_
 cases hS
 refine r1 hr h rfl (rvA H 0 A26 Z26 O3) ⟨rfl,H.out⟩
 refine rg fun K k=>sB h hS rfl (v_seq rfl rfl) fun z21 e21 hS a h=>cps 1 h rfl fun a h=>cz k<|cI h hS rfl (fun ec22 hS=>?_) fun ec22 hS=>?_
 refine rg fun K k=>cps 1 h rfl fun a h=>s1 h rfl (v_build bld26 O2 O3 rfl rfl) fun a h=>sC h H hS rfl (fun y23 f23=>dC call115 (value_ToNum_ok f23 :)) fun y23 hS w X H a h=>?_
 refine zS h H 0 Z26 O3 O3 [_] fun w H=>?_
 refine cN k h [4] [_] fun h=>?_
 cases hS
 refine r1 hr h rfl (rvA H 0 A26 Z26 O3) ⟨rfl,H.out⟩
 refine c_skip<|cO h [4] [_] fun h=>?_
 refine rg fun K k=>sC h H hS rfl (fun y24 f24=>dC call21 (value_Fail_ok f24 :)) fun y24 hS w X H a h=>?_
 refine zS h H 0 Z26 O3 O3 [_] fun w H=>?_
 refine cz k ?_
 cases hS
 refine r1 hr h rfl (rvA H 0 A26 Z26 O3) ⟨rfl,H.out⟩
theorem texts_Part_ok {x0:List UInt8} {x1:List UInt8} {x2:List (Int)} {res:V} {w0:World} (hS:texts_Part x0 x1 x2=some res) {xv2:Value} (rp2:RdZ (hz w0) xv2 1 (eI .i64) x2):Calls Tryz.prog 169 [S x0,S x1,xv2].toArray w0 (Ret fun v w=>v=.agg #[.int .i64 res.k,.int .i64 res.n,S res.s]∧Ext w0 w):=by
 refine en func169 [0,1,2] O3 fun Q a Zi Z hzs H h hr=>?_
 have rp2:=rp2.sub hzs
 clear hzs
 unfold texts_Part at hS
 refine rg fun K k=>zA h H V26 O3 (fun x=>[x]) fun a p1 w X H h=>?_
 refine cz k<|sq<|rg fun K k=>cps 1 h rfl fun a h=>s1 h rfl (v_len U231 rfl (rp2.at H.zin)) fun a h=>sB h hS rfl (v_eq rfl rfl) fun z3 e3 hS a h=>cz k<|cI h hS rfl (fun ec4 hS=>?_) fun ec4 hS=>?_
 refine rg fun K k=>sC h H hS rfl (fun y5 f5=>dC call21 (value_Fail_ok f5 :)) fun y5 hS w X H a h=>?_
 refine zS h H 0 Z26 O3 O3 [_] fun w H=>?_
 refine cN k h [6] [_] fun h=>?_
 cases hS
 refine r1 hr h rfl (rvA H 0 A26 Z26 O3) ⟨rfl,H.out⟩
 refine c_skip<|rg fun K k=>cps 2 h rfl fun a h=>s1 h rfl (v_len U231 rfl (rp2.at H.zin)) fun a h=>sI h hS rfl (v_subw rfl rfl) fun z6 e6 hS a h=>?_
 obtain ⟨c7,hS⟩:=ck hS
 obtain ⟨z8,e8,hS⟩:=bv hS
 refine st_idx h U231 Z2 rfl rfl (rp2.at H.zin) (fun _=>rfl) z8 c7.1 (by rw [e8];exact gel_some c7) rfl fun a v21 A21 h=>?_
 refine s1 h rfl (v_loadAt1 rfl A21 A2 rfl) fun a h=>cps 1 h rfl fun a h=>sC h H hS rfl (fun y9 f9=>dC call210 (texts_count_ok f9 :)) fun y9 hS w X H a h=>?_
 have A21:=At.ext A21 X
 refine cps 5 h rfl fun a h=>cN k h [0,1,2,6,7,8] O6 fun h=>?_
 refine sq<|rg fun K k=>cps 1 h rfl fun a h=>sB h hS rfl (v_not rfl) fun z11 e11 hS a h=>cz k<|cI h hS rfl (fun ec12 hS=>?_) fun ec12 hS=>?_
 refine rg fun K k=>sC h H hS rfl (fun y13 f13=>dC call21 (value_Fail_ok f13 :)) fun y13 hS w X H a h=>?_
 refine zS h H 0 Z26 O3 O3 [_] fun w H=>?_
 refine cN k h [6] [_] fun h=>?_
 cases hS
 refine r1 hr h rfl (rvA H 0 A26 Z26 O3) ⟨rfl,H.out⟩
 refine c_skip<|sq<|rg fun K k=>cps 1 h rfl fun a h=>cN k h [1,2,6,7,30] O5 fun h=>?_
 refine lb<|rg fun K k=>sB h hS rfl (v_seq rfl rfl) fun z16 e16 hS a h=>cps 1 h rfl fun a h=>cz k<|cI h hS rfl (fun ec17 hS=>?_) fun ec17 hS=>?_
 refine rg fun K k=>cps 2 h rfl fun a h=>?_
 obtain ⟨c18,hS⟩:=ck hS
 refine sS h hS rfl (v_scutHi U9 rfl rfl c18) fun z19 e19 hS a h=>sC h H hS rfl (fun y20 f20=>dC call28 (value_Text_ok f20 :)) fun y20 hS w X H a h=>?_
 refine zS h H 0 Z26 O3 O3 [_] fun w H=>?_
 refine cN k h [6] [_] fun h=>?_
 cases hS
 refine r1 hr h rfl (rvA H 0 A26 Z26 O3) ⟨rfl,H.out⟩
 refine rg fun K k=>sB h hS rfl (v_seq rfl rfl) fun z21 e21 hS a h=>cps 1 h rfl fun a h=>cz k<|cI h hS rfl (fun ec22 hS=>?_) fun ec22 hS=>?_
 refine rg fun K k=>cps 2 h rfl fun a h=>s1 h rfl (v_slen U9 rfl) fun a h=>cps 1 h rfl fun a h=>sI h hS rfl (v_subw rfl rfl) fun z23 e23 hS a h=>?_
 obtain ⟨c24,hS⟩:=ck hS
 refine sS h hS rfl (v_scutLo U9 rfl rfl c24) fun z25 e25 hS a h=>sC h H hS rfl (fun y26 f26=>dC call28 (value_Text_ok f26 :)) fun y26 hS w X H a h=>?_
 refine zS h H 0 Z26 O3 O3 [_] fun w H=>?_
 refine cN k h [6] [_] fun h=>?_
 cases hS
 refine r1 hr h rfl (rvA H 0 A26 Z26 O3) ⟨rfl,H.out⟩
 refine rg fun K k=>sB h hS rfl (v_seq rfl rfl) fun z27 e27 hS a h=>cps 1 h rfl fun a h=>cN k h [1,2,6,7,30,46] O6 fun h=>?_
 refine cI h hS rfl (fun ec28 hS=>?_) fun ec28 hS=>?_
 refine rg fun K k=>cps 1 h rfl fun a h=>?_
 obtain ⟨c29,hS⟩:=ck hS
 obtain ⟨z30,e30,hS⟩:=bv hS
 refine st_idx h U231 Z2 rfl rfl (rp2.at H.zin) (fun _=>rfl) z30 c29.1 (by rw [e30];exact gel_some c29) rfl fun a v49 A49 h=>?_
 refine s1 h rfl (v_loadAt1 rfl A49 A2 rfl) fun a h=>sI h hS rfl (v_quow rfl rfl (by decide)) fun z31 e31 hS a h=>cps 1 h rfl fun a h=>cN k h [1,6,7,9] O4 fun h=>?_
 refine sq<|rg fun K k=>cps 1 h rfl fun a h=>sB h hS rfl (v_lt rfl rfl) fun z33 e33 hS a h=>cz k<|cI h hS rfl (fun ec34 hS=>?_) fun ec34 hS=>?_
 refine rg fun K k=>sC h H hS rfl (fun y35 f35=>dC call21 (value_Fail_ok f35 :)) fun y35 hS w X H a h=>?_
 refine zS h H 0 Z26 O3 O3 [_] fun w H=>?_
 refine cN k h [6] [_] fun h=>?_
 cases hS
 refine r1 hr h rfl (rvA H 0 A26 Z26 O3) ⟨rfl,H.out⟩
 refine c_skip<|rg fun K k=>cps 1 h rfl fun a h=>sI h hS rfl (v_subw rfl rfl) fun z36 e36 hS a h=>cps 1 h rfl fun a h=>s1 h rfl (v_slen U9 rfl) fun a h=>sI h hS rfl (v_min U2 rfl rfl) fun z37 e37 hS a h=>cps 1 h rfl fun a h=>cN k h [1,6,7,10] O4 fun h=>?_
 refine rg fun K k=>cps 4 h rfl fun a h=>sI h hS rfl (v_addw rfl rfl) fun z38 e38 hS a h=>cps 1 h rfl fun a h=>s1 h rfl (v_slen U9 rfl) fun a h=>sI h hS rfl (v_min U3 rfl rfl) fun z39 e39 hS a h=>?_
 obtain ⟨c40,hS⟩:=ck hS
 refine sS h hS rfl (v_scut U9 rfl rfl rfl c40) fun z41 e41 hS a h=>sC h H hS rfl (fun y42 f42=>dC call28 (value_Text_ok f42 :)) fun y42 hS w X H a h=>?_
 refine zS h H 0 Z26 O3 O3 [_] fun w H=>?_
 refine cN k h [6] [_] fun h=>?_
 cases hS
 refine r1 hr h rfl (rvA H 0 A26 Z26 O3) ⟨rfl,H.out⟩
 refine rg fun K k=>sB h hS rfl (v_seq rfl rfl) fun z43 e43 hS a h=>cps 1 h rfl fun a h=>cN k h [1,2,6,70] O4 fun h=>?_
 refine cI h hS rfl (fun ec44 hS=>?_) fun ec44 hS=>?_
 refine rg fun K k=>cps 1 h rfl fun a h=>?_
 obtain ⟨c45,hS⟩:=ck hS
 obtain ⟨z46,e46,hS⟩:=bv hS
 refine st_idx h U231 Z2 rfl rfl (rp2.at H.zin) (fun _=>rfl) z46 c45.1 (by rw [e46];exact gel_some c45) rfl fun a v73 A73 h=>?_
 refine s1 h rfl (v_loadAt1 rfl A73 A2 rfl) fun a h=>sI h hS rfl (v_quow rfl rfl (by decide)) fun z47 e47 hS a h=>cps 1 h rfl fun a h=>cN k h [1,6,11] O3 fun h=>?_
 refine sq<|rg fun K k=>cps 1 h rfl fun a h=>sB h hS rfl (v_gt rfl rfl) fun z49 e49 hS a h=>cps 1 h rfl fun a h=>st_g h rfl rfl (gT rfl) rfl rfl (fun e0=>v_move rfl) fun a h=>?_
 obtain ⟨z50,e50,hS⟩:=bv hS
 refine st_g h rfl rfl (gT rfl) rfl rfl (fun e0=>vB e50 (v_sne (eg e0 rfl) rfl)) fun a h=>?_
 refine sB h hS rfl (v_and rfl rfl) fun z51 e51 hS a h=>cN k h [1,6,11,81] O4 fun h=>?_
 refine cI h hS rfl (fun ec52 hS=>?_) fun ec52 hS=>?_
 refine rg fun K k=>sC h H hS rfl (fun y53 f53=>dC call21 (value_Fail_ok f53 :)) fun y53 hS w X H a h=>?_
 refine zS h H 0 Z26 O3 O3 [_] fun w H=>?_
 refine cN k h [6] [_] fun h=>?_
 cases hS
 refine r1 hr h rfl (rvA H 0 A26 Z26 O3) ⟨rfl,H.out⟩
 refine c_skip<|rg fun K k=>cps 2 h rfl fun a h=>sI h hS rfl (v_min U2 rfl rfl) fun z54 e54 hS a h=>?_
 obtain ⟨c56,hS⟩:=ck hS
 obtain ⟨z57,e57,hS⟩:=bv hS
 refine st2v (T:=Ext) (V:=S z57) h rfl rfl rfl ((by rw [e57];exact dC call211 (lib_repeat c56))) fun w X a h=>?_
 have H:=H.ext X
 refine sC h H hS rfl (fun y58 f58=>dC call28 (value_Text_ok f58 :)) fun y58 hS w X H a h=>?_
 refine zS h H 0 Z26 O3 O3 [_] fun w H=>?_
 refine cN k h [6] [_] fun h=>?_
 cases hS
 refine r1 hr h rfl (rvA H 0 A26 Z26 O3) ⟨rfl,H.out⟩
 refine c_skip<|rg fun K k=>sC h H hS rfl (fun y59 f59=>dC call21 (value_Fail_ok f59 :)) fun y59 hS w X H a h=>?_
 refine zS h H 0 Z26 O3 O3 [_] fun w H=>?_
 refine cN k h [6] [_] fun h=>?_
 cases hS
 refine r1 hr h rfl (rvA H 0 A26 Z26 O3) ⟨rfl,H.out⟩
theorem texts_More_ok {x0:List UInt8} {x1:List (List UInt8)} {res:V} {w0:World} (hS:texts_More x0 x1=some res) {xv1:Value} (rp1:RdZ (hz w0) xv1 1 eS x1) (hG:GW w0):Calls Tryz.prog 168 [S x0,xv1].toArray w0 (Ret fun v w=>v=.agg #[.int .i64 res.k,.int .i64 res.n,S res.s]∧Ext w0 w):=by
 refine en func168 [0,1] O2 fun Q a Zi Z hzs H h hr=>?_
 have rp1:=rp1.sub hzs
 clear hzs
 unfold texts_More at hS
 refine rg fun K k=>zA h H V26 O3 (fun x=>[x]) fun a p1 w X H h=>?_
 refine cz k<|sb ?_
 refine rg fun K k=>cps 1 h rfl fun a h=>sB h hS rfl (v_seq rfl rfl) fun z3 e3 hS a h=>cps 1 h rfl fun a h=>cz k<|cI h hS rfl (fun ec4 hS=>?_) fun ec4 hS=>?_
 refine rg fun K k=>cps 1 h rfl fun a h=>?_
 obtain ⟨c6,hS⟩:=ck hS
 obtain ⟨z7,e7,hS⟩:=bv hS
 refine st2v (T:=Ext) (V:=S z7) h rfl rfl rfl ((by rw [e7];exact dC call105 (lib_join c6 (rp1.hz H.zin)))) fun w X a h=>?_
 have H:=H.ext X
 refine sC h H hS rfl (fun y8 f8=>dC call28 (value_Text_ok f8 :)) fun y8 hS w X H a h=>?_
 refine zS h H 0 Z26 O3 O3 [_] fun w H=>?_
 refine cN k h [4] [_] fun h=>?_
 cases hS
 refine r1 hr h rfl (rvA H 0 A26 Z26 O3) ⟨rfl,H.out⟩
 refine rg fun K k=>cps 1 h rfl fun a h=>sB h hS rfl (v_seq rfl rfl) fun z9 e9 hS a h=>cps 1 h rfl fun a h=>st_g h rfl rfl (gT rfl) rfl rfl (fun e0=>v_move rfl) fun a h=>?_
 refine st_g h rfl rfl (gT rfl) rfl rfl (fun e0=>v_len U116 (eg e0 rfl) (rp1.at H.zin)) fun a h=>?_
 obtain ⟨z10,e10,hS⟩:=bv hS
 refine st_g h rfl rfl (gT rfl) rfl rfl (fun e0=>vB e10 (v_eq (eg e0 rfl) rfl)) fun a h=>?_
 refine sB h hS rfl (v_and rfl rfl) fun z11 e11 hS a h=>cps 1 h rfl fun a h=>cN k h [0,1,4,12] O4 fun h=>?_
 refine cI h hS rfl (fun ec12 hS=>?_) fun ec12 hS=>?_
 refine flT 8 h fun K k=>?_
 refine fcps 1 rfl ?_
 obtain ⟨c13,hS⟩:=ck hS
 obtain ⟨z14,e14,hS⟩:=bv hS
 refine f_op [20] rfl rfl rfl rfl false (.rel (fun w' v'=>At w' v' eS z14 0)) at_stab (fun w X=>?_) ?_
 skip
 exact have H:=H.ext X;d_idx U116 Z9 rfl rfl (rp1.at H.zin) (fun _=>rfl) z14 c13.1 (by rw [e14];exact gel_some c13)
 refine f_op [21] rfl rfl rfl rfl false (.eq (S z14)) trivial (fun w X=>?_) ?_
 intro v21 h21
 exact (v_loadAt1 rfl h21 A9 rfl).doesF
 refine fcps 1 rfl ?_
 obtain ⟨c15,hS⟩:=ck hS
 obtain ⟨z16,e16,hS⟩:=bv hS
 refine f_op [23] rfl rfl rfl rfl false (.rel (fun w' v'=>At w' v' eS z16 0)) at_stab (fun w X=>?_) ?_
 skip
 exact have H:=H.ext X;d_idx U116 Z9 rfl rfl (rp1.at H.zin) (fun _=>rfl) z16 c15.1 (by rw [e16];exact gel_some c15)
 refine f_op [24] rfl rfl rfl rfl false (.eq (S z16)) trivial (fun w X=>?_) ?_
 intro v24 h24
 exact (v_loadAt1 rfl h24 A9 rfl).doesF
 refine fB hS rfl (fun w X=>v_seq rfl rfl) fun z17 e17 hS=>?_
 refine fC hS rfl (fun y18 f18 w X=>dC call24 (value_Bool_ok f18 :)) fun y18 hS=>?_
 refine fE [4,27] O2 H fun a w X H h=>?_
 refine zS h H 0 Z26 O3 O3 [_] fun w H=>?_
 refine cz k ?_
 cases hS
 refine r1 hr h rfl (rvA H 0 A26 Z26 O3) ⟨rfl,H.out⟩
 refine rg fun K k=>cps 1 h rfl fun a h=>sB h hS rfl (v_seq rfl rfl) fun z19 e19 hS a h=>cps 1 h rfl fun a h=>st_g h rfl rfl (gT rfl) rfl rfl (fun e0=>v_move rfl) fun a h=>?_
 refine st_g h rfl rfl (gT rfl) rfl rfl (fun e0=>v_len U116 (eg e0 rfl) (rp1.at H.zin)) fun a h=>?_
 obtain ⟨z20,e20,hS⟩:=bv hS
 refine st_g h rfl rfl (gT rfl) rfl rfl (fun e0=>vB e20 (v_eq (eg e0 rfl) rfl)) fun a h=>?_
 refine sB h hS rfl (v_and rfl rfl) fun z21 e21 hS a h=>cps 1 h rfl fun a h=>cN k h [0,1,4,28] O4 fun h=>?_
 refine cI h hS rfl (fun ec22 hS=>?_) fun ec22 hS=>?_
 refine fl h ?_
 refine fcps 1 rfl ?_
 obtain ⟨c23,hS⟩:=ck hS
 obtain ⟨z24,e24,hS⟩:=bv hS
 refine f_op [36] rfl rfl rfl rfl false (.rel (fun w' v'=>At w' v' eS z24 0)) at_stab (fun w X=>?_) ?_
 skip
 exact have H:=H.ext X;d_idx U116 Z9 rfl rfl (rp1.at H.zin) (fun _=>rfl) z24 c23.1 (by rw [e24];exact gel_some c23)
 refine f_op [37] rfl rfl rfl rfl false (.eq (S z24)) trivial (fun w X=>?_) ?_
 intro v37 h37
 exact (v_loadAt1 rfl h37 A9 rfl).doesF
 refine fcps 1 rfl ?_
 obtain ⟨c25,hS⟩:=ck hS
 obtain ⟨z26,e26,hS⟩:=bv hS
 refine f_op [39] rfl rfl rfl rfl false (.rel (fun w' v'=>At w' v' eS z26 0)) at_stab (fun w X=>?_) ?_
 skip
 exact have H:=H.ext X;d_idx U116 Z9 rfl rfl (rp1.at H.zin) (fun _=>rfl) z26 c25.1 (by rw [e26];exact gel_some c25)
 refine f_op [40] rfl rfl rfl rfl false (.eq (S z26)) trivial (fun w X=>?_) ?_
 intro v40 h40
 exact (v_loadAt1 rfl h40 A9 rfl).doesF
 obtain ⟨c28,hS⟩:=ck hS
 obtain ⟨z29,e29,hS⟩:=bv hS
 refine f2 (V:=.int .i64 z29) [38,41] rfl rfl rfl rfl (fun w X=>have H:=H.ext X;(by rw [e29];exact dC call209 (lib_index c28 (hG.ext H.out)))) ?_
 refine fcps 1 rfl ?_
 refine fE [4,5] O2 H fun a w X H h=>?_
 refine sq<|rg fun K k=>cps 1 h rfl fun a h=>sB h hS rfl (v_lt rfl rfl) fun z31 e31 hS a h=>cz k<|cI h hS rfl (fun ec32 hS=>?_) fun ec32 hS=>?_
 refine rg fun K k=>sC h H hS rfl (fun y33 f33=>dC call21 (value_Fail_ok f33 :)) fun y33 hS w X H a h=>?_
 refine zS h H 0 Z26 O3 O3 [_] fun w H=>?_
 refine cN k h [4] [_] fun h=>?_
 cases hS
 refine r1 hr h rfl (rvA H 0 A26 Z26 O3) ⟨rfl,H.out⟩
 refine c_skip<|rg fun K k=>cps 1 h rfl fun a h=>sI h hS rfl (v_addw rfl rfl) fun z34 e34 hS a h=>sC h H hS rfl (fun y35 f35=>dC call55 (num_Of_ok f35 :)) fun y35 hS w X H a h=>?_
 refine cps 2 h rfl fun a h=>sC h H hS rfl (fun y36 f36=>dC call116 (value_Made_ok f36 :)) fun y36 hS w X H a h=>?_
 refine zS h H 0 Z26 O3 O3 [_] fun w H=>?_
 refine cN k h [4] [_] fun h=>?_
 cases hS
 refine r1 hr h rfl (rvA H 0 A26 Z26 O3) ⟨rfl,H.out⟩
 refine rg fun K k=>cps 1 h rfl fun a h=>sB h hS rfl (v_seq rfl rfl) fun z37 e37 hS a h=>cps 1 h rfl fun a h=>st_g h rfl rfl (gT rfl) rfl rfl (fun e0=>v_move rfl) fun a h=>?_
 refine st_g h rfl rfl (gT rfl) rfl rfl (fun e0=>v_len U116 (eg e0 rfl) (rp1.at H.zin)) fun a h=>?_
 obtain ⟨z38,e38,hS⟩:=bv hS
 refine st_g h rfl rfl (gT rfl) rfl rfl (fun e0=>vB e38 (v_eq (eg e0 rfl) rfl)) fun a h=>?_
 refine sB h hS rfl (v_and rfl rfl) fun z39 e39 hS a h=>cps 1 h rfl fun a h=>cN k h [1,4,52] O3 fun h=>?_
 refine cI h hS rfl (fun ec40 hS=>?_) fun ec40 hS=>?_
 refine sq<|rg fun K k=>cps 1 h rfl fun a h=>?_
 obtain ⟨c42,hS⟩:=ck hS
 obtain ⟨z43,e43,hS⟩:=bv hS
 refine st_idx h U116 Z9 rfl rfl (rp1.at H.zin) (fun _=>rfl) z43 c42.1 (by rw [e43];exact gel_some c42) rfl fun a v61 A61 h=>?_
 refine s1 h rfl (v_loadAt1 rfl A61 A9 rfl) fun a h=>sB h hS rfl (v_seq rfl rfl) fun z44 e44 hS a h=>cN k h [1,4,63] O3 fun h=>?_
 refine cI h hS rfl (fun ec45 hS=>?_) fun ec45 hS=>?_
 refine rg fun K k=>cps 1 h rfl fun a h=>?_
 obtain ⟨c46,hS⟩:=ck hS
 obtain ⟨z47,e47,hS⟩:=bv hS
 refine st_idx h U116 Z9 rfl rfl (rp1.at H.zin) (fun _=>rfl) z47 c46.1 (by rw [e47];exact gel_some c46) rfl fun a v65 A65 h=>?_
 refine s1 h rfl (v_loadAt1 rfl A65 A9 rfl) fun a h=>sC h H hS rfl (fun y48 f48=>dC call28 (value_Text_ok f48 :)) fun y48 hS w X H a h=>?_
 have A65:=At.ext A65 X
 refine zS h H 0 Z26 O3 O3 [_] fun w H=>?_
 refine cN k h [4] [_] fun h=>?_
 cases hS
 refine r1 hr h rfl (rvA H 0 A26 Z26 O3) ⟨rfl,H.out⟩
 refine c_skip<|flT 11 h fun K k=>?_
 refine fcps 1 rfl ?_
 obtain ⟨c49,hS⟩:=ck hS
 obtain ⟨z50,e50,hS⟩:=bv hS
 refine f_op [68] rfl rfl rfl rfl false (.rel (fun w' v'=>At w' v' eS z50 0)) at_stab (fun w X=>?_) ?_
 skip
 exact have H:=H.ext X;d_idx U116 Z9 rfl rfl (rp1.at H.zin) (fun _=>rfl) z50 c49.1 (by rw [e50];exact gel_some c49)
 refine f_op [69] rfl rfl rfl rfl false (.eq (S z50)) trivial (fun w X=>?_) ?_
 intro v69 h69
 exact (v_loadAt1 rfl h69 A9 rfl).doesF
 refine fcps 1 rfl ?_
 obtain ⟨c51,hS⟩:=ck hS
 obtain ⟨z52,e52,hS⟩:=bv hS
 refine f_op [71] rfl rfl rfl rfl false (.rel (fun w' v'=>At w' v' eS z52 0)) at_stab (fun w X=>?_) ?_
 skip
 exact have H:=H.ext X;d_idx U116 Z9 rfl rfl (rp1.at H.zin) (fun _=>rfl) z52 c51.1 (by rw [e52];exact gel_some c51)
 refine f_op [72] rfl rfl rfl rfl false (.eq (S z52)) trivial (fun w X=>?_) ?_
 intro v72 h72
 exact (v_loadAt1 rfl h72 A9 rfl).doesF
 refine fcps 1 rfl ?_
 obtain ⟨c53,hS⟩:=ck hS
 obtain ⟨z54,e54,hS⟩:=bv hS
 refine f_op [74] rfl rfl rfl rfl false (.rel (fun w' v'=>At w' v' eS z54 0)) at_stab (fun w X=>?_) ?_
 skip
 exact have H:=H.ext X;d_idx U116 Z9 rfl rfl (rp1.at H.zin) (fun _=>rfl) z54 c53.1 (by rw [e54];exact gel_some c53)
 refine f_op [75] rfl rfl rfl rfl false (.eq (S z54)) trivial (fun w X=>?_) ?_
 intro v75 h75
 exact (v_loadAt1 rfl h75 A9 rfl).doesF
 obtain ⟨c56,hS⟩:=ck hS
 obtain ⟨z57,e57,hS⟩:=bv hS
 refine f2 (V:=S z57) [70,73,76] rfl rfl rfl rfl (fun w X=>have H:=H.ext X;(by rw [e57];exact dC call146 (lib_replaceAll c56 (hG.ext H.out)))) ?_
 refine fC hS rfl (fun y58 f58 w X=>dC call28 (value_Text_ok f58 :)) fun y58 hS=>?_
 refine fE [4,78] O2 H fun a w X H h=>?_
 refine zS h H 0 Z26 O3 O3 [_] fun w H=>?_
 refine cz k ?_
 cases hS
 refine r1 hr h rfl (rvA H 0 A26 Z26 O3) ⟨rfl,H.out⟩
 refine c_skip<|rg fun K k=>sC h H hS rfl (fun y59 f59=>dC call21 (value_Fail_ok f59 :)) fun y59 hS w X H a h=>?_
 refine zS h H 0 Z26 O3 O3 [_] fun w H=>?_
 refine cz k ?_
 cases hS
 refine r1 hr h rfl (rvA H 0 A26 Z26 O3) ⟨rfl,H.out⟩
theorem lists_SumProduct_ok {x0:List (V)} {x1:List (V)} {res:V} {w0:World} (hS:lists_SumProduct x0 x1=some res) {xv0:Value} (rp0:RdZ (hz w0) xv0 3 vL x0) {xv1:Value} (rp1:RdZ (hz w0) xv1 3 vL x1):Calls Tryz.prog 220 [xv0,xv1].toArray w0 (Ret fun v w=>v=.agg #[.int .i64 res.k,.int .i64 res.n,S res.s]∧Ext w0 w):=by
 refine en func220 [0,1] O2 fun Q a Zi Z hzs H h hr=>?_
 have rp0:=rp0.sub hzs
 have rp1:=rp1.sub hzs
 clear hzs
 unfold lists_SumProduct at hS
 refine rg fun K k=>zA h H V26 O3 (fun x=>[x]) fun a p1 w X H h=>?_
 refine cz k<|sq<|rg fun K k=>cps 1 h rfl fun a h=>s1 h rfl (v_len U63 rfl (rp0.at H.zin)) fun a h=>cps 1 h rfl fun a h=>s1 h rfl (v_len U63 rfl (rp1.at H.zin)) fun a h=>sB h hS rfl (v_ne rfl rfl) fun z3 e3 hS a h=>cN k h [0,1,4,12] O4 fun h=>?_
 refine cI h hS rfl (fun ec4 hS=>?_) fun ec4 hS=>?_
 refine rg fun K k=>sC h H hS rfl (fun y5 f5=>dC call21 (value_Fail_ok f5 :)) fun y5 hS w X H a h=>?_
 refine zS h H 0 Z26 O3 O3 [_] fun w H=>?_
 refine cN k h [4] [_] fun h=>?_
 cases hS
 refine r1 hr h rfl (rvA H 0 A26 Z26 O3) ⟨rfl,H.out⟩
 refine c_skip<|rg fun K k=>sC h H hS rfl (fun y6 f6=>dC call14 (value_Num_ok f6 :)) fun y6 hS w X H a h=>?_
 refine zA h H V26 O3 (fun x=>[_,x]) fun a p7 w X H h=>?_
 refine zS h H 1 Z26 O3 O3 O2 fun w H=>?_
 refine cz k ?_
 obtain ⟨J9,eJ9,hS⟩:=bv hS
 refine sqJ (fun a w=>∃ (Z:FZ) (s9:Int × Int × (List UInt8) × Int × Int × (List UInt8)),J9 s9=some res∧Fr 67 [(4,(pt p1)),(5,(pt p7))] a∧HZ w0 Zi Z [.blk p1 (Cel [.int .i64 s9.1,.int .i64 s9.2.1,S s9.2.2.1] 26),.blk p7 (Cel [.int .i64 s9.2.2.2.1,.int .i64 s9.2.2.2.2.1,S s9.2.2.2.2.2] 26)] w) ?_ ?_
 rintro a w ⟨Z,s9,hS,h,H⟩
 subst eJ9
 refine rg fun K k=>s1 h rfl (lA H 1 A26 Z26 O3) fun a h=>zS h H 0 Z26 O3 O3 O2 fun w H=>?_
 refine cz k ?_
 cases hS
 refine r1 hr h rfl (rvA H 0 A26 Z26 O3) ⟨rfl,H.out⟩
 refine rg fun K k=>cps 1 h rfl fun a h=>s1 h rfl (v_len U63 rfl (rp0.at H.zin)) fun a h=>cps 1 h rfl fun a h=>cz k<|lb ?_
 obtain ⟨B11,eB11,hS⟩:=bv hS
 refine lpJ (fun mu_ a w=>∃ (Z:FZ) (s11:Int × Int × Int × (List UInt8) × Int × Int × (List UInt8)),loopF B11 mu_ s11=some res∧Fr 67 [(0,xv0),(1,xv1),(4,(pt p1)),(5,(pt p7)),(16,.int .i64 (x0.length:Int)),(17,.int .i64 s11.1)] a∧HZ w0 Zi Z [.blk p1 (Cel [.int .i64 s11.2.1,.int .i64 s11.2.2.1,S s11.2.2.2.1] 26),.blk p7 (Cel [.int .i64 s11.2.2.2.2.1,.int .i64 s11.2.2.2.2.2.1,S s11.2.2.2.2.2.2] 26)] w∧RdZ Z xv0 3 vL x0∧RdZ Z xv1 3 vL x1) KK ⟨_,_,hS,h.to,H,rp0,rp1⟩ ?_
 rintro mu_ a w ⟨Z,s11,hS,h,H,rp0,rp1⟩
 obtain ⟨mu_,rfl,n11,en11,hS⟩:=lpX eB11 hS
 refine rg fun K k=>sB h hS rfl (v_lt rfl rfl) fun z13 e13 hS a h=>cz k<|sq<|cI h hS rfl (fun ec15 hS=>?_) fun ec15 hS=>?_
 refine c_skip<|sb ?_
 refine rg fun K k=>cps 2 h rfl fun a h=>cz k<|sq<|rg fun K k=>cps 2 h rfl fun a h=>?_
 obtain ⟨c18,hS⟩:=ck hS
 obtain ⟨z19,e19,hS⟩:=bv hS
 refine st_idx h U63 Z26 rfl rfl (rp0.at H.zin) (fun _=>rfl) z19 c18.1 (by rw [e19];exact gel_some c18) rfl fun a v22 A22 h=>?_
 refine st_fieldAt h rfl A22 U26 rfl Z3 rfl rfl rfl fun a v23 A23 h=>?_
 refine s1 h rfl (v_loadAt1 rfl A23 A3 rfl) fun a h=>sB h hS rfl (v_ne rfl rfl) fun z20 e20 hS a h=>cps 1 h rfl fun a h=>st_g h rfl rfl (gF rfl) rfl rfl (fun e0=>v_move rfl) fun a h=>?_
 refine st_g h rfl rfl (gF rfl) rfl rfl (fun e0=>v_move rfl) fun a h=>?_
 obtain ⟨c21,hS⟩:=ck hS
 obtain ⟨z22,e22,hS⟩:=bv hS
 refine st_idxG h rfl (gF rfl) U63 Z26 (fun e0=>(eg e0 rfl)) (fun e0=>(eg e0 rfl)) (rp1.at H.zin) (fun _=>rfl) z22 (fun e0=>(c21 e0).1) (fun e0=>(by rw [e22];exact gel_some (c21 e0))) rfl fun a v29 A29 h=>?_
 refine st_fieldG h rfl (gF rfl) (fun e0=>(eg e0 rfl)) (fun e0=>(A29 e0)) U26 rfl Z3 rfl rfl rfl fun a v30 A30 h=>?_
 refine st_g h rfl rfl (gF rfl) rfl rfl (fun e0=>v_loadAt1 (eg e0 rfl) (A30 e0) A3 rfl) fun a h=>?_
 obtain ⟨z23,e23,hS⟩:=bv hS
 refine st_g h rfl rfl (gF rfl) rfl rfl (fun e0=>vB e23 (v_ne (eg e0 rfl) rfl)) fun a h=>?_
 refine sB h hS rfl (v_or rfl rfl) fun z24 e24 hS a h=>cN k h [0,1,4,5,6,16,17,33] O8 fun h=>?_
 refine cI h hS rfl (fun ec25 hS=>?_) fun ec25 hS=>?_
 refine c_exit ?_
 refine c_lregion<|sI h hS rfl (v_addw rfl rfl) fun z26 e26 hS a h=>cps 1 h rfl fun a h=>c_lnil ?_
 exact exL (ex2 ⟨lpN en11 hS,h.to,H,rp0,rp1⟩)
 refine c_skip<|flT 13 h fun K k=>?_
 refine F1 rfl (fun w X=>have H:=H.ext X;lA H 1 A26 Z26 O3) ?_
 refine fcps 2 rfl ?_
 obtain ⟨c27,hS⟩:=ck hS
 obtain ⟨z28,e28,hS⟩:=bv hS
 refine f_op [35,36] rfl rfl rfl rfl false (.rel (fun w' v'=>At w' v' vL z28 0)) at_stab (fun w X=>?_) ?_
 skip
 exact have H:=H.ext X;d_idx U63 Z26 rfl rfl (rp0.at H.zin) (fun _=>rfl) z28 c27.1 (by rw [e28];exact gel_some c27)
 refine f_op [37] rfl rfl rfl rfl false (.eq (vA z28)) trivial (fun w X=>?_) ?_
 intro v37 h37
 exact (v_loadAtA O3 rfl h37 A26 Z26 rfl rfl).doesF
 refine fcps 2 rfl ?_
 obtain ⟨c29,hS⟩:=ck hS
 obtain ⟨z30,e30,hS⟩:=bv hS
 refine f_op [39,40] rfl rfl rfl rfl false (.rel (fun w' v'=>At w' v' vL z30 0)) at_stab (fun w X=>?_) ?_
 skip
 exact have H:=H.ext X;d_idx U63 Z26 rfl rfl (rp1.at H.zin) (fun _=>rfl) z30 c29.1 (by rw [e30];exact gel_some c29)
 refine f_op [41] rfl rfl rfl rfl false (.eq (vA z30)) trivial (fun w X=>?_) ?_
 intro v41 h41
 exact (v_loadAtA O3 rfl h41 A26 Z26 rfl rfl).doesF
 refine f_op [38,42] rfl rfl rfl rfl false (.rel (fun w' v'=>RdZ (ZB Z w.heap.size w') v' 3 vL ([z28,z30]:List (V)))) rd_stab (fun w X=>?_) ?_
 skip
 exact d_sliceR (enc:=vL) ([z28,z30]:List (V)) H.zin X U63 Z26 V26 rfl (zl:=[.int .i64 0,.int .i64 0,S [],.int .i64 0,.int .i64 0,S []]) kR (plA_get 2 3) O2 O6 rfl rfl rfl rfl
 obtain ⟨y31,f31,hS⟩:=bo hS
 refine f_op [43] rfl rfl rfl rfl false (.eq (vA y31)) trivial (fun w X=>?_) ?_
 intro v43 h43
 exact have Hs:=ZB.of H.zin X;have H:=H.ext X;Does.doesF (dC call215 (lists_Product_ok (x0:=[z28,z30]) f31 (h43.hz (ZB.inn H.zin))))
 refine f_op [34,44] rfl rfl rfl rfl false (.rel (fun w' v'=>RdZ (ZB Z w.heap.size w') v' 3 vL ([(⟨s11.2.2.2.2.1,s11.2.2.2.2.2.1,s11.2.2.2.2.2.2⟩:V),y31]:List (V)))) rd_stab (fun w X=>?_) ?_
 skip
 exact d_sliceR (enc:=vL) ([(⟨s11.2.2.2.2.1,s11.2.2.2.2.2.1,s11.2.2.2.2.2.2⟩:V),y31]:List (V)) H.zin X U63 Z26 V26 rfl (zl:=[.int .i64 0,.int .i64 0,S [],.int .i64 0,.int .i64 0,S []]) kR (plA_get 2 3) O2 O6 rfl rfl rfl rfl
 obtain ⟨y32,f32,hS⟩:=bo hS
 refine f_op [45] rfl rfl rfl rfl false (.eq (vA y32)) trivial (fun w X=>?_) ?_
 intro v45 h45
 exact have Hs:=ZB.of H.zin X;have H:=H.ext X;Does.doesF (dC call214 (lists_Sum_ok (x0:=[(⟨s11.2.2.2.2.1,s11.2.2.2.2.2.1,s11.2.2.2.2.2.2⟩:V),y31]) f32 (h45.hz (ZB.inn H.zin))))
 refine fE [0,1,4,5,6,16,17,46] O8 H fun a w X H h=>?_
 refine zS h H 1 Z26 O3 O3 O2 fun w H=>?_
 refine cz k<|sq<|flT 11 h fun K k=>?_
 refine fcps 2 rfl ?_
 obtain ⟨c34,hS⟩:=ck hS
 obtain ⟨z35,e35,hS⟩:=bv hS
 refine f_op [47,48] rfl rfl rfl rfl false (.rel (fun w' v'=>At w' v' vL z35 0)) at_stab (fun w X=>?_) ?_
 skip
 exact have H:=H.ext X;d_idx U63 Z26 rfl rfl (rp0.at H.zin) (fun _=>rfl) z35 c34.1 (by rw [e35];exact gel_some c34)
 refine f_op [49] rfl rfl rfl rfl false (.eq (vA z35)) trivial (fun w X=>?_) ?_
 intro v49 h49
 exact (v_loadAtA O3 rfl h49 A26 Z26 rfl rfl).doesF
 refine fcps 2 rfl ?_
 obtain ⟨c36,hS⟩:=ck hS
 obtain ⟨z37,e37,hS⟩:=bv hS
 refine f_op [51,52] rfl rfl rfl rfl false (.rel (fun w' v'=>At w' v' vL z37 0)) at_stab (fun w X=>?_) ?_
 skip
 exact have H:=H.ext X;d_idx U63 Z26 rfl rfl (rp1.at H.zin) (fun _=>rfl) z37 c36.1 (by rw [e37];exact gel_some c36)
 refine f_op [53] rfl rfl rfl rfl false (.eq (vA z37)) trivial (fun w X=>?_) ?_
 intro v53 h53
 exact (v_loadAtA O3 rfl h53 A26 Z26 rfl rfl).doesF
 refine f_op [50,54] rfl rfl rfl rfl false (.rel (fun w' v'=>RdZ (ZB Z w.heap.size w') v' 3 vL ([z35,z37]:List (V)))) rd_stab (fun w X=>?_) ?_
 skip
 exact d_sliceR (enc:=vL) ([z35,z37]:List (V)) H.zin X U63 Z26 V26 rfl (zl:=[.int .i64 0,.int .i64 0,S [],.int .i64 0,.int .i64 0,S []]) kR (plA_get 2 3) O2 O6 rfl rfl rfl rfl
 obtain ⟨y38,f38,hS⟩:=bo hS
 refine f_op [55] rfl rfl rfl rfl false (.eq (vA y38)) trivial (fun w X=>?_) ?_
 intro v55 h55
 exact have Hs:=ZB.of H.zin X;have H:=H.ext X;Does.doesF (dC call215 (lists_Product_ok (x0:=[z35,z37]) f38 (h55.hz (ZB.inn H.zin))))
 refine f_alloc V26 O3 rfl rfl ?_
 refine fn_ ?_
 intro a w X hR hA
 obtain ⟨_,⟨p39,rfl,hb7⟩,h⟩:=hR.out [0,1,4,5,7,16,17,56]
 have h:Fr 67 [(56,_),(17,_),(16,_),(7,_),(5,_),(4,_),(1,_),(0,_)] a:=h
 have lo7:=hA.lo' h (s:=7) rfl rfl
 have H:=H.pushF X hb7 lo7
 have H:HZ w0 _ _ O3 _:=H
 refine zS h H 2 Z26 O3 O3 O3 fun w H=>?_
 refine cz k<|rg fun K k=>s1 h rfl (v_fieldAddr rfl U26 rfl Z3 rfl rfl) fun a h=>s1 h rfl (l1 H 2 A3) fun a h=>sB h hS rfl (v_eq rfl rfl) fun z40 e40 hS a h=>cz k<|cI h hS rfl (fun ec41 hS=>?_) fun ec41 hS=>?_
 refine rg fun K k=>s1 h rfl (lA H 2 A26 Z26 O3) fun a h=>zS h H 0 Z26 O3 O3 O3 fun w H=>?_
 refine cN k h [4] [_] fun h=>?_
 cases hS
 refine r1 hr h rfl (rvA H 0 A26 Z26 O3) ⟨rfl,H.out⟩
 refine c_skip<|cO h [0,1,4,5,16,17] O6 fun h=>?_
 refine rg fun K k=>s1 h rfl (v_fieldAddr rfl U26 rfl Z3 rfl rfl) fun a h=>s1 h rfl (l1 H 1 A3) fun a h=>sB h hS rfl (v_eq rfl rfl) fun z42 e42 hS a h=>cz k<|cI h hS rfl (fun ec43 hS=>?_) fun ec43 hS=>?_
 refine rg fun K k=>s1 h rfl (lA H 1 A26 Z26 O3) fun a h=>zS h H 0 Z26 O3 O3 O3 fun w H=>?_
 refine cN k h [4] [_] fun h=>?_
 cases hS
 refine r1 hr h rfl (rvA H 0 A26 Z26 O3) ⟨rfl,H.out⟩
 refine c_skip<|c_lregion<|sI h hS rfl (v_addw rfl rfl) fun z44 e44 hS a h=>cps 1 h rfl fun a h=>c_lnil ?_
 exact exL (ex2 ⟨lpN en11 hS,h.to,(H.keepN 2 rfl),rp0,rp1⟩)
 exact c_exit (ex2 ⟨hS,h.to,H⟩)
end Go.Proofs.YtcecjdnkcbfhlaaGreatDoor
