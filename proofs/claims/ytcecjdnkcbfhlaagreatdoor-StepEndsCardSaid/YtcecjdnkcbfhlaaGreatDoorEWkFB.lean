/- Joined texts. -/
import Derived.Test.YtcecjdnkcbfhlaaGreatDoorES0
import Derived.Test.YtcecjdnkcbfhlaaGreatDoorEWkB
set_option linter.unusedSimpArgs false
set_option linter.unusedVariables false
set_option linter.unusedSectionVars false
namespace Go.Proofs.YtcecjdnkcbfhlaaGreatDoor
open Go.Stp Go.RowKit Go.ValP Go.Sp _root_.Go.Proofs.Tryz
set_option maxRecDepth 100000
theorem value_Compare_ok {x0:V} {x1:V} {res:Int} {w0:World} (hS:value_Compare x0 x1=some res):Calls Tryz.prog 118 [(vA x0),(vA x1)].toArray w0 (Ret fun v w=>v=.int .i64 res∧Ext w0 w):=by
 refine en func118 [0,1] O2 fun Q a Zi Z hzs H h hr=>?_
 clear hzs
 unfold value_Compare at hS
 refine rg fun K k=>z_box h H rfl O3 rfl rfl fun a p1 w X H h=>?_
 have H:HZ w0 _ _ [_] _:=H
 refine z_box h H rfl O3 rfl rfl fun a p2 w X H h=>?_
 have H:HZ w0 _ _ O2 _:=H
 refine cps 1 h rfl fun a h=>cz k<|flT 6 h fun K k=>?_
 refine F1 rfl (fun w X=>have H:=H.ext X;lA H 0 A26 Z26 O3) ?_
 refine F1 rfl (fun w X=>have H:=H.ext X;lA H 1 A26 Z26 O3) ?_
 refine fC hS rfl (fun y5 f5 w X=>dC call160 (value_like_ok f5 :)) fun y5 hS=>?_
 refine F1 rfl (fun w X=>have H:=H.ext X;lA H 1 A26 Z26 O3) ?_
 refine F1 rfl (fun w X=>have H:=H.ext X;lA H 0 A26 Z26 O3) ?_
 refine fC hS rfl (fun y6 f6 w X=>dC call160 (value_like_ok f6 :)) fun y6 hS=>?_
 refine fE [2,3,7,10] O4 H fun a w X H h=>?_
 refine zS h H 0 Z26 O3 O3 O2 fun w H=>?_
 refine zS h H 1 Z26 O3 O3 O2 fun w H=>?_
 refine cz k<|sq<|rg fun K k=>s1 h rfl (v_fieldAddr rfl U26 rfl Z3 rfl rfl) fun a h=>s1 h rfl (l1 H 0 A3) fun a h=>s1 h rfl (v_fieldAddr rfl U26 rfl Z3 rfl rfl) fun a h=>s1 h rfl (l1 H 1 A3) fun a h=>sB h hS rfl (v_ne rfl rfl) fun z8 e8 hS a h=>cN k h [2,3,15] O3 fun h=>?_
 refine cI h hS rfl (fun ec9 hS=>?_) fun ec9 hS=>?_
 refine fl h ?_
 refine F1 rfl (fun w X=>have H:=H.ext X;lA H 0 A26 Z26 O3) ?_
 refine fC hS rfl (fun y10 f10 w X=>dC call161 (value_rank_ok f10 :)) fun y10 hS=>?_
 refine F1 rfl (fun w X=>have H:=H.ext X;lA H 1 A26 Z26 O3) ?_
 refine fC hS rfl (fun y11 f11 w X=>dC call161 (value_rank_ok f11 :)) fun y11 hS=>?_
 refine fI hS rfl (fun w X=>v_subw rfl rfl) fun z12 e12 hS=>?_
 refine fcps 1 rfl ?_
 refine fE [4] [_] H fun a w X H h=>?_
 cases hS
 refine r1 hr h rfl rfl ⟨rfl,H.out⟩
 refine c_skip<|sb ?_
 refine rg fun K k=>s1 h rfl (v_fieldAddr rfl U26 rfl Z3 rfl rfl) fun a h=>s1 h rfl (l1 H 0 A3) fun a h=>sB h hS rfl (v_eq rfl rfl) fun z14 e14 hS a h=>cps 1 h rfl fun a h=>cN k h [2,3,21] O3 fun h=>?_
 refine cI h hS rfl (fun ec15 hS=>?_) fun ec15 hS=>?_
 refine rg fun K k=>s1 h rfl (v_fieldAddr rfl U26 rfl Z9 rfl rfl) fun a h=>s1 h rfl (l1 H 0 A9) fun a h=>s1 h rfl (v_fieldAddr rfl U26 rfl Z9 rfl rfl) fun a h=>s1 h rfl (l1 H 1 A9) fun a h=>?_
 obtain ⟨z17,e17,hS⟩:=bv hS
 refine st2v (T:=Ext) (V:=.int .i64 z17) h rfl rfl rfl ((by rw [e17];exact dC call162 (lib_compare))) fun w X a h=>?_
 have H:=H.ext X
 refine cps 1 h rfl fun a h=>cN k h [4] [_] fun h=>?_
 cases hS
 refine r1 hr h rfl rfl ⟨rfl,H.out⟩
 refine rg fun K k=>s1 h rfl (v_fieldAddr rfl U26 rfl Z2 rfl rfl) fun a h=>s1 h rfl (l1 H 0 A2) fun a h=>s1 h rfl (v_fieldAddr rfl U26 rfl Z2 rfl rfl) fun a h=>s1 h rfl (l1 H 1 A2) fun a h=>sB h hS rfl (v_lt rfl rfl) fun z18 e18 hS a h=>cps 1 h rfl fun a h=>cN k h [2,3,30] O3 fun h=>?_
 refine cI h hS rfl (fun ec19 hS=>?_) fun ec19 hS=>?_
 refine rg fun K k=>cps 1 h rfl fun a h=>cz k ?_
 cases hS
 refine r1 hr h rfl rfl ⟨rfl,H.out⟩
 refine rg fun K k=>s1 h rfl (v_fieldAddr rfl U26 rfl Z2 rfl rfl) fun a h=>s1 h rfl (l1 H 0 A2) fun a h=>s1 h rfl (v_fieldAddr rfl U26 rfl Z2 rfl rfl) fun a h=>s1 h rfl (l1 H 1 A2) fun a h=>sB h hS rfl (v_gt rfl rfl) fun z20 e20 hS a h=>cps 1 h rfl fun a h=>cN k h [36] [_] fun h=>?_
 refine cI h hS rfl (fun ec21 hS=>?_) fun ec21 hS=>?_
 refine rg fun K k=>cps 1 h rfl fun a h=>cz k ?_
 cases hS
 refine r1 hr h rfl rfl ⟨rfl,H.out⟩
 refine c_skip<|rg fun K k=>cps 1 h rfl fun a h=>cz k ?_
 cases hS
 refine r1 hr h rfl rfl ⟨rfl,H.out⟩
theorem tree_Name_ok {x0:Int} {res:(List UInt8)} {w0:World} (hS:tree_Name x0=some res) (hG:GW w0):Calls Tryz.prog 79 [.int .i64 x0].toArray w0 (Ret fun v w=>v=S res∧Ext w0 w):=by
 refine en func79 [0] [_] fun Q a Zi Z hzs H h hr=>?_
 clear hzs
 unfold tree_Name at hS
 refine rg fun K k=>cps 1 h rfl fun a h=>cz k<|rg fun K k=>?_
 obtain ⟨c2,hS⟩:=ck hS
 obtain ⟨z3,e3,hS⟩:=bv hS
 refine z_callR (data:=z3) h H rfl rfl rfl ((by rw [e3];exact dC call64 (lib_fields c2 (hG.ext H.out)))) fun v4_4 Z w hsub X H r4_4 a h=>?_
 refine cps 1 h rfl fun a h=>cz k<|sq<|rg fun K k=>cps 1 h rfl fun a h=>sB h hS rfl (v_lt rfl rfl) fun z6 e6 hS a h=>cps 1 h rfl fun a h=>st_g h rfl rfl (gF rfl) rfl rfl (fun e0=>v_move rfl) fun a h=>?_
 refine st_g h rfl rfl (gF rfl) rfl rfl (fun e0=>v_move rfl) fun a h=>?_
 refine st_g h rfl rfl (gF rfl) rfl rfl (fun e0=>v_len U116 (eg e0 rfl) (r4_4.at H.zin)) fun a h=>?_
 obtain ⟨z7,e7,hS⟩:=bv hS
 refine st_g h rfl rfl (gF rfl) rfl rfl (fun e0=>vB e7 (v_gt (eg e0 rfl) (eg e0 rfl))) fun a h=>?_
 refine sB h hS rfl (v_or rfl rfl) fun z8 e8 hS a h=>cN k h [0,3,12] O3 fun h=>?_
 refine cI h hS rfl (fun ec9 hS=>?_) fun ec9 hS=>?_
 refine rg fun K k=>cps 1 h rfl fun a h=>cz k ?_
 cases hS
 refine r1 hr h rfl rfl ⟨rfl,H.out⟩
 refine c_skip<|fl h ?_
 refine fcps 2 rfl ?_
 refine fI hS rfl (fun w X=>v_subw rfl rfl) fun z10 e10 hS=>?_
 obtain ⟨c11,hS⟩:=ck hS
 obtain ⟨z12,e12,hS⟩:=bv hS
 refine f_op [13,15] rfl rfl rfl rfl false (.rel (fun w' v'=>At w' v' eS z12 0)) at_stab (fun w X=>?_) ?_
 skip
 exact have H:=H.ext X;d_idx U116 Z9 rfl rfl (r4_4.at H.zin) (fun _=>rfl) z12 c11.1 (by rw [e12];exact gel_some c11)
 refine f_op [16] rfl rfl rfl rfl false (.eq (S z12)) trivial (fun w X=>?_) ?_
 intro v16 h16
 exact (v_loadAt1 rfl h16 A9 rfl).doesF
 refine fcps 2 rfl ?_
 refine fI hS rfl (fun w X=>v_subw rfl rfl) fun z13 e13 hS=>?_
 obtain ⟨c14,hS⟩:=ck hS
 obtain ⟨z15,e15,hS⟩:=bv hS
 refine f_op [18,20] rfl rfl rfl rfl false (.rel (fun w' v'=>At w' v' eS z15 0)) at_stab (fun w X=>?_) ?_
 skip
 exact have H:=H.ext X;d_idx U116 Z9 rfl rfl (r4_4.at H.zin) (fun _=>rfl) z15 c14.1 (by rw [e15];exact gel_some c14)
 refine f_op [21] rfl rfl rfl rfl false (.eq (S z15)) trivial (fun w X=>?_) ?_
 intro v21 h21
 exact (v_loadAt1 rfl h21 A9 rfl).doesF
 refine F1 rfl (fun w X=>v_slen U9 rfl) ?_
 refine fI hS rfl (fun w X=>v_subw rfl rfl) fun z16 e16 hS=>?_
 obtain ⟨c17,hS⟩:=ck hS
 refine fS hS rfl (fun w X=>v_scutHi U9 rfl rfl c17) fun z18 e18 hS=>?_
 refine fcps 1 rfl ?_
 refine fE [2] [_] H fun a w X H h=>?_
 cases hS
 refine r1 hr h rfl rfl ⟨rfl,H.out⟩
theorem tree_Fits_ok {x0:Int} {x1:Int} {res:Bool} {w0:World} (hS:tree_Fits x0 x1=some res) (hG:GW w0):Calls Tryz.prog 49 [.int .i64 x0,.int .i64 x1].toArray w0 (Ret fun v w=>v=.bool res∧Ext w0 w):=by
 refine en func49 [0,1] O2 fun Q a Zi Z hzs H h hr=>?_
 clear hzs
 unfold tree_Fits at hS
 refine rg fun K k=>cps 1 h rfl fun a h=>cz k<|rg fun K k=>?_
 obtain ⟨c2,hS⟩:=ck hS
 obtain ⟨z3,e3,hS⟩:=bv hS
 refine z_callR (data:=z3) h H rfl rfl rfl ((by rw [e3];exact dC call64 (lib_fields c2 (hG.ext H.out)))) fun v7_4 Z w hsub X H r7_4 a h=>?_
 refine cps 1 h rfl fun a h=>cz k<|sq<|rg fun K k=>cps 1 h rfl fun a h=>sB h hS rfl (v_lt rfl rfl) fun z6 e6 hS a h=>cps 1 h rfl fun a h=>st_g h rfl rfl (gF rfl) rfl rfl (fun e0=>v_move rfl) fun a h=>?_
 refine st_g h rfl rfl (gF rfl) rfl rfl (fun e0=>v_move rfl) fun a h=>?_
 refine st_g h rfl rfl (gF rfl) rfl rfl (fun e0=>v_len U116 (eg e0 rfl) (r7_4.at H.zin)) fun a h=>?_
 obtain ⟨z7,e7,hS⟩:=bv hS
 refine st_g h rfl rfl (gF rfl) rfl rfl (fun e0=>vB e7 (v_gt (eg e0 rfl) (eg e0 rfl))) fun a h=>?_
 refine sB h hS rfl (v_or rfl rfl) fun z8 e8 hS a h=>cN k h [0,1,5,15] O4 fun h=>?_
 refine cI h hS rfl (fun ec9 hS=>?_) fun ec9 hS=>?_
 refine rg fun K k=>cps 1 h rfl fun a h=>cN k h [4] [_] fun h=>?_
 cases hS
 refine r1 hr h rfl rfl ⟨rfl,H.out⟩
 refine c_skip<|rg fun K k=>cps 2 h rfl fun a h=>sI h hS rfl (v_subw rfl rfl) fun z10 e10 hS a h=>?_
 obtain ⟨c11,hS⟩:=ck hS
 obtain ⟨z12,e12,hS⟩:=bv hS
 refine st_idx h U116 Z9 rfl rfl (r7_4.at H.zin) (fun _=>rfl) z12 c11.1 (by rw [e12];exact gel_some c11) rfl fun a v19 A19 h=>?_
 refine s1 h rfl (v_loadAt1 rfl A19 A9 rfl) fun a h=>cps 1 h rfl fun a h=>cN k h [1,6] O2 fun h=>?_
 refine rg fun K k=>cps 3 h rfl fun a h=>s1 h rfl (v_slen U9 rfl) fun a h=>sI h hS rfl (v_subw rfl rfl) fun z13 e13 hS a h=>?_
 obtain ⟨c14,hS⟩:=ck hS
 refine sI h hS rfl (v_sidx U9 rfl rfl c14) fun z15 e15 hS a h=>sI h hS rfl (v_subw rfl rfl) fun z16 e16 hS a h=>sI h hS rfl (v_convInt (by rw [U5];rfl) U3 rfl rfl) fun z17 e17 hS a h=>sB h hS rfl (v_ge rfl rfl) fun z18 e18 hS a h=>cps 1 h rfl fun a h=>st_g h rfl rfl (gT rfl) rfl rfl (fun e0=>v_move rfl) fun a h=>?_
 refine st_g h rfl rfl (gT rfl) rfl rfl (fun e0=>v_move rfl) fun a h=>?_
 refine st_g h rfl rfl (gT rfl) rfl rfl (fun e0=>v_move rfl) fun a h=>?_
 refine st_g h rfl rfl (gT rfl) rfl rfl (fun e0=>v_slen U9 (eg e0 rfl)) fun a h=>?_
 obtain ⟨z19,e19,hS⟩:=bv hS
 refine st_g h rfl rfl (gT rfl) rfl rfl (fun e0=>vI e19 (v_subw (eg e0 rfl) rfl)) fun a h=>?_
 obtain ⟨c20,hS⟩:=ck hS
 obtain ⟨z21,e21,hS⟩:=bv hS
 refine st_g h rfl rfl (gT rfl) rfl rfl (fun e0=>vI e21 (v_sidx U9 (eg e0 rfl) (eg e0 rfl) (c20 e0))) fun a h=>?_
 obtain ⟨z22,e22,hS⟩:=bv hS
 refine st_g h rfl rfl (gT rfl) rfl rfl (fun e0=>vI e22 (v_subw (eg e0 rfl) rfl)) fun a h=>?_
 obtain ⟨z23,e23,hS⟩:=bv hS
 refine st_g h rfl rfl (gT rfl) rfl rfl (fun e0=>vI e23 (v_convInt (by rw [U5];rfl) U3 (eg e0 rfl) rfl)) fun a h=>?_
 obtain ⟨z24,e24,hS⟩:=bv hS
 refine st_g h rfl rfl (gT rfl) rfl rfl (fun e0=>vB e24 (v_le (eg e0 rfl) (eg e0 rfl))) fun a h=>?_
 refine sB h hS rfl (v_and rfl rfl) fun z25 e25 hS a h=>cps 1 h rfl fun a h=>cN k h [4] [_] fun h=>?_
 cases hS
 refine r1 hr h rfl rfl ⟨rfl,H.out⟩
theorem num_Of_ok {x0:Int} {res:Int × Bool} {w0:World} (hS:num_Of x0=some res):Calls Tryz.prog 55 [.int .i64 x0].toArray w0 (Ret fun v w=>v=.tuple #[.int .i64 res.1,.bool res.2]∧Ext w0 w):=by
 refine en func55 [0] [_] fun Q a Zi Z hzs H h hr=>?_
 clear hzs
 unfold num_Of at hS
 refine rg fun K k=>cps 2 h rfl fun a h=>cz k<|sq<|rg fun K k=>cps 1 h rfl fun a h=>sB h hS rfl (v_gt rfl rfl) fun z2 e2 hS a h=>cps 1 h rfl fun a h=>st_g h rfl rfl (gF rfl) rfl rfl (fun e0=>v_move rfl) fun a h=>?_
 obtain ⟨z3,e3,hS⟩:=bv hS
 refine st_g h rfl rfl (gF rfl) rfl rfl (fun e0=>vB e3 (v_lt (eg e0 rfl) rfl)) fun a h=>?_
 refine sB h hS rfl (v_or rfl rfl) fun z4 e4 hS a h=>cN k h [0,9] O2 fun h=>?_
 refine cI h hS rfl (fun ec5 hS=>?_) fun ec5 hS=>?_
 refine rg fun K k=>cps 2 h rfl fun a h=>cz k ?_
 cases hS
 refine r2 hr h rfl rfl rfl ⟨rfl,H.out⟩
 refine c_skip<|rg fun K k=>cps 1 h rfl fun a h=>sI h hS rfl (v_mulw rfl rfl) fun z6 e6 hS a h=>cps 2 h rfl fun a h=>cN k h [2,3] O2 fun h=>?_
 cases hS
 refine r2 hr h rfl rfl rfl ⟨rfl,H.out⟩
theorem num_Floor_ok {x0:Int} {res:Int × Bool} {w0:World} (hS:num_Floor x0=some res):Calls Tryz.prog 199 [.int .i64 x0].toArray w0 (Ret fun v w=>v=.tuple #[.int .i64 res.1,.bool res.2]∧Ext w0 w):=by
 refine en func199 [0] [_] fun Q a Zi Z hzs H h hr=>?_
 clear hzs
 unfold num_Floor at hS
 refine rg fun K k=>cps 2 h rfl fun a h=>cz k<|rg fun K k=>cps 1 h rfl fun a h=>sI h hS rfl (v_rem rfl rfl (by decide)) fun z1 e1 hS a h=>cps 1 h rfl fun a h=>cN k h [0,4] O2 fun h=>?_
 obtain ⟨J3,eJ3,hS⟩:=bv hS
 refine sqJ (fun a w=>∃ (Z:FZ) (s3:Int),J3 s3=some res∧Fr 16 [(0,.int .i64 x0),(4,.int .i64 s3)] a∧HZ w0 Zi Z [] w) ?_ ?_
 rintro a w ⟨Z,s3,hS,h,H⟩
 subst eJ3
 refine rg fun K k=>cps 2 h rfl fun a h=>sC h H hS rfl (fun y4 f4=>dC call120 (num_Sub_ok f4 :)) fun y4 hS w X H a h=>?_
 refine cps 4 h rfl fun a h=>cN k h [2,3] O2 fun h=>?_
 cases hS
 refine r2 hr h rfl rfl rfl ⟨rfl,H.out⟩
 refine rg fun K k=>cps 1 h rfl fun a h=>sB h hS rfl (v_lt rfl rfl) fun z5 e5 hS a h=>cz k<|cI h hS rfl (fun ec6 hS=>?_) fun ec6 hS=>?_
 refine c_lregion<|cps 1 h rfl fun a h=>sI h hS rfl (v_addw rfl rfl) fun z7 e7 hS a h=>cps 1 h rfl fun a h=>c_lnil ?_
 exact ex2 ⟨hS,h.to,H⟩
 exact c_skip (ex2 ⟨hS,h.to,H⟩)
theorem maths_gcd_ok {x0:Int} {x1:Int} {res:Int} {w0:World} (hS:maths_gcd x0 x1=some res):Calls Tryz.prog 204 [.int .i64 x0,.int .i64 x1].toArray w0 (Ret fun v w=>v=.int .i64 res∧Ext w0 w):=by
 refine en func204 [0,1] O2 fun Q a Zi Z hzs H h hr=>?_
 clear hzs
 unfold maths_gcd at hS
 refine rg fun K k=>cps 1 h rfl fun a h=>cz k ?_
 obtain ⟨J2,eJ2,hS⟩:=bv hS
 refine sbJ (fun a w=>∃ (Z:FZ) (s2:Int),J2 s2=some res∧Fr 12 [(0,.int .i64 s2)] a∧HZ w0 Zi Z [] w) ?_ ?_
 rintro a w ⟨Z,s2,hS,h,H⟩
 subst eJ2
 refine rg fun K k=>cps 2 h rfl fun a h=>cz k ?_
 cases hS
 refine r1 hr h rfl rfl ⟨rfl,H.out⟩
 obtain ⟨B3,eB3,hS⟩:=bv hS
 refine lpJ (fun mu_ a w=>∃ (Z:FZ) (s3:Int × Int),loopF B3 mu_ s3=some res∧Fr 12 [(0,.int .i64 s3.1),(1,.int .i64 s3.2)] a∧HZ w0 Zi Z [] w) KK ⟨_,_,hS,h.to,H⟩ ?_
 rintro mu_ a w ⟨Z,s3,hS,h,H⟩
 obtain ⟨mu_,rfl,n3,en3,hS⟩:=lpX eB3 hS
 refine sq<|rg fun K k=>cps 1 h rfl fun a h=>sB h hS rfl (v_ne rfl rfl) fun z6 e6 hS a h=>cz k<|cI h hS rfl (fun ec7 hS=>?_) fun ec7 hS=>?_
 refine c_skip<|lb<|c_lflow h kR kR ?_
 refine fcps 3 rfl ?_
 obtain ⟨c9,hS⟩:=ck hS
 refine fI hS rfl (fun w X=>v_rem rfl rfl c9) fun z10 e10 hS=>?_
 refine fcps 2 rfl ?_
 refine fE [0,1] O2 H fun a w X H h=>?_
 exact exL (ex2 ⟨lpN en3 hS,h.to,H⟩)
 exact c_exit (ex2 ⟨hS,h.to,H⟩)
theorem maths_whole_ok {x0:List (Int)} {res:(List (Int))} {w0:World} (hS:maths_whole x0=some res) {xv0:Value} (rp0:RdZ (hz w0) xv0 1 (eI .i64) x0):Calls Tryz.prog 201 [xv0].toArray w0 (Ret fun v w=>RdZ (ZB Z0 w0.heap.size w) v 1 (eI .i64) res∧Ext w0 w):=by
 refine en func201 [0] [_] fun Q a Zi Z hzs H h hr=>?_
 have rp0:=rp0.sub hzs
 clear hzs
 unfold maths_whole at hS
 refine rg fun K k=>cps 1 h rfl fun a h=>cz k<|rg fun K k=>cps 1 h rfl fun a h=>cz k ?_
 have H:=H.nilRow 2 1 rfl
 have H:HZ w0 _ _ [_] _:=H
 obtain ⟨J2,eJ2,hS⟩:=bv hS
 refine sqJ (fun a w=>∃ (Z:FZ) (s2:(List (Int))) (sv3:Value),J2 s2=some res∧Fr 19 [(3,sv3)] a∧HZ w0 Zi Z [.row 2 1 sv3 (s2:List (Int)).length ((s2:List (Int)).flatMap (eI .i64))] w) ?_ ?_
 rintro a w ⟨Z,s2,sv3,hS,h,H⟩
 subst eJ2
 refine rg fun K k=>cps 2 h rfl fun a h=>cz k ?_
 cases hS
 refine r1 hr h rfl rfl ⟨(H.backRow (i:=0) rfl),H.out⟩
 refine rg fun K k=>cps 1 h rfl fun a h=>s1 h rfl (v_len U231 rfl (rp0.at H.zin)) fun a h=>cps 1 h rfl fun a h=>cz k<|lb ?_
 obtain ⟨B5,eB5,hS⟩:=bv hS
 refine lpJ (fun mu_ a w=>∃ (Z:FZ) (s5:Int × (List (Int))) (sv7:Value),loopF B5 mu_ s5=some res∧Fr 19 [(3,sv7),(6,xv0),(7,.int .i64 (x0.length:Int)),(8,.int .i64 s5.1)] a∧HZ w0 Zi Z [.row 2 1 sv7 (s5.2:List (Int)).length ((s5.2:List (Int)).flatMap (eI .i64))] w∧RdZ Z xv0 1 (eI .i64) x0) KK ⟨_,_,_,hS,h.to,H,rp0⟩ ?_
 rintro mu_ a w ⟨Z,s5,sv7,hS,h,H,rp0⟩
 obtain ⟨mu_,rfl,n5,en5,hS⟩:=lpX eB5 hS
 refine rg fun K k=>sB h hS rfl (v_lt rfl rfl) fun z8 e8 hS a h=>cz k<|sq<|cI h hS rfl (fun ec10 hS=>?_) fun ec10 hS=>?_
 refine c_skip<|sb ?_
 refine rg fun K k=>?_
 obtain ⟨c12,hS⟩:=ck hS
 obtain ⟨z13,e13,hS⟩:=bv hS
 refine st_idx h U231 Z2 rfl rfl (rp0.at H.zin) (fun _=>rfl) z13 c12.1 (by rw [e13];exact gel_some c12) rfl fun a v10 A10 h=>?_
 refine s1 h rfl (v_loadAt1 rfl A10 A2 rfl) fun a h=>cps 1 h rfl fun a h=>cz k<|c_lregion<|cps 2 h rfl fun a h=>sI h hS rfl (v_quow rfl rfl (by decide)) fun z14 e14 hS a h=>z_slice (enc:=(eI .i64)) ([z14]:List (Int)) h H U231 Z2 zeroValue2 rfl (zl:=[.int .i64 0]) kR (plA_get 1 1) [_] [_] rfl rfl rfl rfl rfl fun a v15_15 Z w hsub X H r15_15 h=>?_
 have rp0:=rp0.sub hsub
 have A10:=At.ext A10 X
 obtain ⟨c17,hS⟩:=ck hS
 obtain ⟨z18,e18,hS⟩:=bv hS
 refine z_appendS (enc:=(eI .i64)) (out:=s5.2) (data:=[z14]) h H 0 rfl U231 app2 rfl rfl rfl r15_15 (fun _=>rfl) (fun _ _=>rfl) c17 rfl fun a v16_16 w H h=>?_
 rw [←e18] at H
 have H:HZ w0 _ _ [_] _:=H
 refine cps 1 h rfl fun a h=>c_lnil<|cO h [3,6,7,8] O4 fun h=>?_
 refine c_lregion<|sI h hS rfl (v_addw rfl rfl) fun z19 e19 hS a h=>cps 1 h rfl fun a h=>c_lnil ?_
 exact exL (ex3 ⟨lpN en5 hS,h.to,H,rp0⟩)
 exact c_exit (ex3 ⟨hS,h.to,H⟩)
theorem maths_back_ok {x0:Int} {res:V} {w0:World} (hS:maths_back x0=some res):Calls Tryz.prog 198 [.int .i64 x0].toArray w0 (Ret fun v w=>v=.agg #[.int .i64 res.k,.int .i64 res.n,S res.s]∧Ext w0 w):=by
 refine en func198 [0] [_] fun Q a Zi Z hzs H h hr=>?_
 clear hzs
 unfold maths_back at hS
 refine rg fun K k=>zA h H V26 O3 (fun x=>[x]) fun a p1 w X H h=>?_
 refine cz k<|rg fun K k=>cps 1 h rfl fun a h=>sC h H hS rfl (fun y2 f2=>dC call55 (num_Of_ok f2 :)) fun y2 hS w X H a h=>?_
 refine cps 2 h rfl fun a h=>sC h H hS rfl (fun y3 f3=>dC call116 (value_Made_ok f3 :)) fun y3 hS w X H a h=>?_
 refine zS h H 0 Z26 O3 O3 [_] fun w H=>?_
 refine cN k h [2] [_] fun h=>?_
 cases hS
 refine r1 hr h rfl (rvA H 0 A26 Z26 O3) ⟨rfl,H.out⟩
theorem maths_away_ok {x0:Int} {x1:Bool} {res:V} {w0:World} (hS:maths_away x0 x1=some res):Calls Tryz.prog 200 [.int .i64 x0,.bool x1].toArray w0 (Ret fun v w=>v=.agg #[.int .i64 res.k,.int .i64 res.n,S res.s]∧Ext w0 w):=by
 refine en func200 [0,1] O2 fun Q a Zi Z hzs H h hr=>?_
 clear hzs
 unfold maths_away at hS
 refine rg fun K k=>zA h H V26 O3 (fun x=>[x]) fun a p1 w X H h=>?_
 refine cz k<|rg fun K k=>cps 1 h rfl fun a h=>sI h hS rfl (v_quow rfl rfl (by decide)) fun z2 e2 hS a h=>cps 1 h rfl fun a h=>cz k<|rg fun K k=>cps 1 h rfl fun a h=>cz k ?_
 obtain ⟨J4,eJ4,hS⟩:=bv hS
 refine sqJ (fun a w=>∃ (Z:FZ) (s4:Int × Int),J4 s4=some res∧Fr 29 [(0,.int .i64 x0),(1,.bool x1),(4,(pt p1)),(5,.int .i64 s4.1),(6,.int .i64 s4.2)] a∧HZ w0 Zi Z [.blk p1 (Cel [.int .i64 0,.int .i64 0,S []] 26)] w) ?_ ?_
 rintro a w ⟨Z,s4,hS,h,H⟩
 subst eJ4
 obtain ⟨J6,eJ6,hS⟩:=bv hS
 refine sqJ (fun a w=>∃ (Z:FZ) (s6:Int),J6 s6=some res∧Fr 29 [(1,.bool x1),(4,(pt p1)),(5,.int .i64 s6),(6,.int .i64 s4.2)] a∧HZ w0 Zi Z [.blk p1 (Cel [.int .i64 0,.int .i64 0,S []] 26)] w) ?_ ?_
 rintro a w ⟨Z,s6,hS,h,H⟩
 subst eJ6
 obtain ⟨J8,eJ8,hS⟩:=bv hS
 refine sqJ (fun a w=>∃ (Z:FZ) (s8:Int),J8 s8=some res∧Fr 29 [(4,(pt p1)),(5,.int .i64 s8),(6,.int .i64 s4.2)] a∧HZ w0 Zi Z [.blk p1 (Cel [.int .i64 0,.int .i64 0,S []] 26)] w) ?_ ?_
 rintro a w ⟨Z,s8,hS,h,H⟩
 subst eJ8
 refine rg fun K k=>cps 2 h rfl fun a h=>sI h hS rfl (v_mulw rfl rfl) fun z9 e9 hS a h=>sC h H hS rfl (fun y10 f10=>dC call198 (maths_back_ok f10 :)) fun y10 hS w X H a h=>?_
 refine zS h H 0 Z26 O3 O3 [_] fun w H=>?_
 refine cN k h [4] [_] fun h=>?_
 cases hS
 refine r1 hr h rfl (rvA H 0 A26 Z26 O3) ⟨rfl,H.out⟩
 refine rg fun K k=>cps 1 h rfl fun a h=>sI h hS rfl (v_rem rfl rfl (by decide)) fun z11 e11 hS a h=>sB h hS rfl (v_eq rfl rfl) fun z12 e12 hS a h=>cps 1 h rfl fun a h=>sB h hS rfl (v_bne U4 rfl rfl) fun z13 e13 hS a h=>cN k h [4,5,6,22] O4 fun h=>?_
 refine cI h hS rfl (fun ec14 hS=>?_) fun ec14 hS=>?_
 refine c_lregion<|cps 1 h rfl fun a h=>sI h hS rfl (v_addw rfl rfl) fun z15 e15 hS a h=>cps 1 h rfl fun a h=>c_lnil ?_
 exact ex2 ⟨hS,h.to,H⟩
 exact c_skip (ex2 ⟨hS,h.to,H⟩)
 refine rg fun K k=>cps 1 h rfl fun a h=>sI h hS rfl (v_rem rfl rfl (by decide)) fun z16 e16 hS a h=>sB h hS rfl (v_ne rfl rfl) fun z17 e17 hS a h=>cz k<|cI h hS rfl (fun ec18 hS=>?_) fun ec18 hS=>?_
 refine c_lregion<|cps 1 h rfl fun a h=>sI h hS rfl (v_addw rfl rfl) fun z19 e19 hS a h=>cps 1 h rfl fun a h=>c_lnil ?_
 exact ex2 ⟨hS,h.to,H⟩
 exact c_skip (ex2 ⟨hS,h.to,H⟩)
 refine rg fun K k=>cps 1 h rfl fun a h=>sB h hS rfl (v_lt rfl rfl) fun z20 e20 hS a h=>cz k<|cI h hS rfl (fun ec21 hS=>?_) fun ec21 hS=>?_
 refine c_lregion<|cps 1 h rfl fun a h=>sI h hS rfl (v_negw rfl) fun z22 e22 hS a h=>cps 2 h rfl fun a h=>c_lnil ?_
 exact ex2 ⟨hS,h.to,H⟩
 exact c_skip (ex2 ⟨hS,h.to,H⟩)
theorem maths_round_ok {x0:Int} {x1:Int} {res:V} {w0:World} (hS:maths_round x0 x1=some res):Calls Tryz.prog 202 [.int .i64 x0,.int .i64 x1].toArray w0 (Ret fun v w=>v=.agg #[.int .i64 res.k,.int .i64 res.n,S res.s]∧Ext w0 w):=by
 refine en func202 [0,1] O2 fun Q a Zi Z hzs H h hr=>?_
 clear hzs
 unfold maths_round at hS
 refine rg fun K k=>zA h H V26 O3 (fun x=>[x]) fun a p1 w X H h=>?_
 refine cz k<|rg fun K k=>cps 1 h rfl fun a h=>cz k ?_
 obtain ⟨J3,eJ3,hS⟩:=bv hS
 refine sqJ (fun a w=>∃ (Z:FZ) (s3:Int),J3 s3=some res∧Fr 51 [(0,.int .i64 x0),(4,(pt p1)),(5,.int .i64 s3)] a∧HZ w0 Zi Z [.blk p1 (Cel [.int .i64 0,.int .i64 0,S []] 26)] w) ?_ ?_
 rintro a w ⟨Z,s3,hS,h,H⟩
 subst eJ3
 refine fl h ?_
 refine fcps 2 rfl ?_
 obtain ⟨c4,hS⟩:=ck hS
 refine fI hS rfl (fun w X=>v_quow rfl rfl c4) fun z5 e5 hS=>?_
 refine fcps 2 rfl ?_
 obtain ⟨c6,hS⟩:=ck hS
 refine fI hS rfl (fun w X=>v_rem rfl rfl c6) fun z7 e7 hS=>?_
 refine fcps 2 rfl ?_
 refine fE [0,4,5,6,7] O5 H fun a w X H h=>?_
 obtain ⟨J9,eJ9,hS⟩:=bv hS
 refine sqJ (fun a w=>∃ (Z:FZ) (s9:Int),J9 s9=some res∧Fr 51 [(0,.int .i64 x0),(4,(pt p1)),(5,.int .i64 s3),(6,.int .i64 z5),(7,.int .i64 s9)] a∧HZ w0 Zi Z [.blk p1 (Cel [.int .i64 0,.int .i64 0,S []] 26)] w) ?_ ?_
 rintro a w ⟨Z,s9,hS,h,H⟩
 subst eJ9
 obtain ⟨J11,eJ11,hS⟩:=bv hS
 refine sqJ (fun a w=>∃ (Z:FZ) (s11:Int),J11 s11=some res∧Fr 51 [(4,(pt p1)),(5,.int .i64 s3),(6,.int .i64 s11)] a∧HZ w0 Zi Z [.blk p1 (Cel [.int .i64 0,.int .i64 0,S []] 26)] w) ?_ ?_
 rintro a w ⟨Z,s11,hS,h,H⟩
 subst eJ11
 refine sq<|rg fun K k=>cps 2 h rfl fun a h=>?_
 obtain ⟨c13,hS⟩:=ck hS
 refine sI h hS rfl (v_quow rfl rfl c13) fun z14 e14 hS a h=>sB h hS rfl (v_gt rfl rfl) fun z15 e15 hS a h=>cps 1 h rfl fun a h=>st_g h rfl rfl (gF rfl) rfl rfl (fun e0=>v_move rfl) fun a h=>?_
 refine st_g h rfl rfl (gF rfl) rfl rfl (fun e0=>v_move rfl) fun a h=>?_
 obtain ⟨c16,hS⟩:=ck hS
 obtain ⟨z17,e17,hS⟩:=bv hS
 refine st_g h rfl rfl (gF rfl) rfl rfl (fun e0=>vI e17 (v_quow rfl (eg e0 rfl) (c16 e0))) fun a h=>?_
 obtain ⟨z18,e18,hS⟩:=bv hS
 refine st_g h rfl rfl (gF rfl) rfl rfl (fun e0=>vB e18 (v_lt (eg e0 rfl) (eg e0 rfl))) fun a h=>?_
 refine sB h hS rfl (v_or rfl rfl) fun z19 e19 hS a h=>cN k h [4,5,6,45] O4 fun h=>?_
 refine cI h hS rfl (fun ec20 hS=>?_) fun ec20 hS=>?_
 refine rg fun K k=>sC h H hS rfl (fun y21 f21=>dC call21 (value_Fail_ok f21 :)) fun y21 hS w X H a h=>?_
 refine zS h H 0 Z26 O3 O3 [_] fun w H=>?_
 refine cN k h [4] [_] fun h=>?_
 cases hS
 refine r1 hr h rfl (rvA H 0 A26 Z26 O3) ⟨rfl,H.out⟩
 refine c_skip<|rg fun K k=>cps 2 h rfl fun a h=>sI h hS rfl (v_mulw rfl rfl) fun z22 e22 hS a h=>sC h H hS rfl (fun y23 f23=>dC call14 (value_Num_ok f23 :)) fun y23 hS w X H a h=>?_
 refine zS h H 0 Z26 O3 O3 [_] fun w H=>?_
 refine cN k h [4] [_] fun h=>?_
 cases hS
 refine r1 hr h rfl (rvA H 0 A26 Z26 O3) ⟨rfl,H.out⟩
 refine rg fun K k=>cps 3 h rfl fun a h=>sI h hS rfl (v_subw rfl rfl) fun z24 e24 hS a h=>sB h hS rfl (v_ge rfl rfl) fun z25 e25 hS a h=>cN k h [0,4,5,6,29] O5 fun h=>?_
 refine cI h hS rfl (fun ec26 hS=>?_) fun ec26 hS=>?_
 refine rg fun K k=>cps 1 h rfl fun a h=>sB h hS rfl (v_lt rfl rfl) fun z27 e27 hS a h=>cz k<|cI h hS rfl (fun ec28 hS=>?_) fun ec28 hS=>?_
 refine c_lregion<|cps 1 h rfl fun a h=>sI h hS rfl (v_subw rfl rfl) fun z29 e29 hS a h=>cps 1 h rfl fun a h=>c_lnil ?_
 exact ex2 ⟨hS,h.to,H⟩
 refine c_lregion<|cps 1 h rfl fun a h=>sI h hS rfl (v_addw rfl rfl) fun z30 e30 hS a h=>cps 1 h rfl fun a h=>c_lnil ?_
 exact ex2 ⟨hS,h.to,H⟩
 exact c_skip (ex2 ⟨hS,h.to,H⟩)
 refine rg fun K k=>cps 1 h rfl fun a h=>sB h hS rfl (v_lt rfl rfl) fun z31 e31 hS a h=>cz k<|cI h hS rfl (fun ec32 hS=>?_) fun ec32 hS=>?_
 refine c_lregion<|cps 1 h rfl fun a h=>sI h hS rfl (v_negw rfl) fun z33 e33 hS a h=>cps 1 h rfl fun a h=>c_lnil ?_
 exact ex2 ⟨hS,h.to,H⟩
 exact c_skip (ex2 ⟨hS,h.to,H⟩)
 refine rg fun K k=>cps 1 h rfl fun a h=>sI h hS rfl (v_subw rfl rfl) fun z34 e34 hS a h=>cps 1 h rfl fun a h=>cz k<|lb ?_
 obtain ⟨B36,eB36,hS⟩:=bv hS
 refine lpJ (fun mu_ a w=>∃ (Z:FZ) (s36:Int × Int),loopF B36 mu_ s36=some res∧Fr 51 [(0,.int .i64 x0),(4,(pt p1)),(5,.int .i64 s36.1),(9,.int .i64 z34),(10,.int .i64 s36.2)] a∧HZ w0 Zi Z [.blk p1 (Cel [.int .i64 0,.int .i64 0,S []] 26)] w) KK ⟨_,_,hS,h.to,H⟩ ?_
 rintro mu_ a w ⟨Z,s36,hS,h,H⟩
 obtain ⟨mu_,rfl,n36,en36,hS⟩:=lpX eB36 hS
 refine rg fun K k=>sB h hS rfl (v_lt rfl rfl) fun z38 e38 hS a h=>cz k<|sq<|cI h hS rfl (fun ec40 hS=>?_) fun ec40 hS=>?_
 refine c_skip<|sb ?_
 refine c_lregion<|cps 1 h rfl fun a h=>sI h hS rfl (v_mulw rfl rfl) fun z42 e42 hS a h=>cps 1 h rfl fun a h=>c_lnil<|c_lregion<|sI h hS rfl (v_addw rfl rfl) fun z43 e43 hS a h=>cps 1 h rfl fun a h=>c_lnil ?_
 exact exL (ex2 ⟨lpN en36 hS,h.to,H⟩)
 exact c_exit (ex2 ⟨hS,h.to,H⟩)
theorem lists_numbers_ok {x0:List (V)} {res:(List (Int))} {w0:World} (hS:lists_numbers x0=some res) {xv0:Value} (rp0:RdZ (hz w0) xv0 3 vL x0):Calls Tryz.prog 241 [xv0].toArray w0 (Ret fun v w=>RdZ (ZB Z0 w0.heap.size w) v 1 (eI .i64) res∧Ext w0 w):=by
 refine en func241 [0] [_] fun Q a Zi Z hzs H h hr=>?_
 have rp0:=rp0.sub hzs
 clear hzs
 unfold lists_numbers at hS
 refine rg fun K k=>cps 1 h rfl fun a h=>cz k<|rg fun K k=>cps 1 h rfl fun a h=>cz k ?_
 have H:=H.nilRow 2 1 rfl
 have H:HZ w0 _ _ [_] _:=H
 obtain ⟨J2,eJ2,hS⟩:=bv hS
 refine sqJ (fun a w=>∃ (Z:FZ) (s2:(List (Int))) (sv3:Value),J2 s2=some res∧Fr 22 [(3,sv3)] a∧HZ w0 Zi Z [.row 2 1 sv3 (s2:List (Int)).length ((s2:List (Int)).flatMap (eI .i64))] w) ?_ ?_
 rintro a w ⟨Z,s2,sv3,hS,h,H⟩
 subst eJ2
 refine rg fun K k=>cps 2 h rfl fun a h=>cz k ?_
 cases hS
 refine r1 hr h rfl rfl ⟨(H.backRow (i:=0) rfl),H.out⟩
 refine rg fun K k=>cps 1 h rfl fun a h=>s1 h rfl (v_len U63 rfl (rp0.at H.zin)) fun a h=>cps 1 h rfl fun a h=>cz k<|lb ?_
 obtain ⟨B5,eB5,hS⟩:=bv hS
 refine lpJ (fun mu_ a w=>∃ (Z:FZ) (s5:Int × (List (Int))) (sv7:Value),loopF B5 mu_ s5=some res∧Fr 22 [(3,sv7),(6,xv0),(7,.int .i64 (x0.length:Int)),(8,.int .i64 s5.1)] a∧HZ w0 Zi Z [.row 2 1 sv7 (s5.2:List (Int)).length ((s5.2:List (Int)).flatMap (eI .i64))] w∧RdZ Z xv0 3 vL x0) KK ⟨_,_,_,hS,h.to,H,rp0⟩ ?_
 rintro mu_ a w ⟨Z,s5,sv7,hS,h,H,rp0⟩
 obtain ⟨mu_,rfl,n5,en5,hS⟩:=lpX eB5 hS
 refine rg fun K k=>sB h hS rfl (v_lt rfl rfl) fun z8 e8 hS a h=>cz k<|sq<|cI h hS rfl (fun ec10 hS=>?_) fun ec10 hS=>?_
 refine c_skip<|sb ?_
 refine rg fun K k=>?_
 obtain ⟨c12,hS⟩:=ck hS
 obtain ⟨z13,e13,hS⟩:=bv hS
 refine st_idx h U63 Z26 rfl rfl (rp0.at H.zin) (fun _=>rfl) z13 c12.1 (by rw [e13];exact gel_some c12) rfl fun a v10 A10 h=>?_
 refine s1 h rfl (v_loadAtA O3 rfl A10 A26 Z26 rfl rfl) fun a h=>zA h H V26 O3 (fun x=>[_,x]) fun a p14 w X H h=>?_
 have A10:=At.ext A10 X
 refine zS h H 1 Z26 O3 O3 O2 fun w H=>?_
 refine cz k<|rg fun K k=>s1 h rfl (v_fieldAddr rfl U26 rfl Z3 rfl rfl) fun a h=>s1 h rfl (l1 H 1 A3) fun a h=>sB h hS rfl (v_eq rfl rfl) fun z15 e15 hS a h=>cN k h [3,5,6,7,8,14] O6 fun h=>?_
 refine cI h hS rfl (fun ec16 hS=>?_) fun ec16 hS=>?_
 refine c_lregion<|cps 1 h rfl fun a h=>s1 h rfl (v_fieldAddr rfl U26 rfl Z2 rfl rfl) fun a h=>s1 h rfl (l1 H 1 A2) fun a h=>z_slice (enc:=(eI .i64)) ([z13.n]:List (Int)) h H U231 Z2 zeroValue2 rfl (zl:=[.int .i64 0]) kR (plA_get 1 1) [_] [_] rfl rfl rfl rfl rfl fun a v18_17 Z w hsub X H r18_17 h=>?_
 have rp0:=rp0.sub hsub
 obtain ⟨c19,hS⟩:=ck hS
 obtain ⟨z20,e20,hS⟩:=bv hS
 refine z_appendS (enc:=(eI .i64)) (out:=s5.2) (data:=[z13.n]) h H 0 rfl U231 app2 rfl rfl rfl r18_17 (fun _=>rfl) (fun _ _=>rfl) c19 rfl fun a v19_18 w H h=>?_
 rw [←e20] at H
 have H:HZ w0 _ _ O2 _:=H
 refine cps 1 h rfl fun a h=>c_lnil<|cO h [3,6,7,8] O4 fun h=>?_
 refine c_lregion<|sI h hS rfl (v_addw rfl rfl) fun z21 e21 hS a h=>cps 1 h rfl fun a h=>c_lnil ?_
 exact exL (ex3 ⟨lpN en5 hS,h.to,(H.keepN 1 rfl),rp0⟩)
 refine c_skip<|c_lregion<|sI h hS rfl (v_addw rfl rfl) fun z22 e22 hS a h=>cps 1 h rfl fun a h=>c_lnil ?_
 exact exL (ex3 ⟨lpN en5 hS,h.to,(H.keepN 1 rfl),rp0⟩)
 exact c_exit (ex3 ⟨hS,h.to,H⟩)
theorem lists_Sum_ok {x0:List (V)} {res:V} {w0:World} (hS:lists_Sum x0=some res) {xv0:Value} (rp0:RdZ (hz w0) xv0 3 vL x0):Calls Tryz.prog 214 [xv0].toArray w0 (Ret fun v w=>v=.agg #[.int .i64 res.k,.int .i64 res.n,S res.s]∧Ext w0 w):=by
 refine en func214 [0] [_] fun Q a Zi Z hzs H h hr=>?_
 have rp0:=rp0.sub hzs
 clear hzs
 unfold lists_Sum at hS
 refine rg fun K k=>zA h H V26 O3 (fun x=>[x]) fun a p1 w X H h=>?_
 refine cz k<|rg fun K k=>cps 2 h rfl fun a h=>cz k ?_
 obtain ⟨J3,eJ3,hS⟩:=bv hS
 refine sqJ (fun a w=>∃ (Z:FZ) (s3:Int × Bool),J3 s3=some res∧Fr 25 [(2,(pt p1)),(3,.int .i64 s3.1),(4,.bool s3.2)] a∧HZ w0 Zi Z [.blk p1 (Cel [.int .i64 0,.int .i64 0,S []] 26)] w) ?_ ?_
 rintro a w ⟨Z,s3,hS,h,H⟩
 subst eJ3
 refine rg fun K k=>cps 2 h rfl fun a h=>sC h H hS rfl (fun y4 f4=>dC call116 (value_Made_ok f4 :)) fun y4 hS w X H a h=>?_
 refine zS h H 0 Z26 O3 O3 [_] fun w H=>?_
 refine cN k h [2] [_] fun h=>?_
 cases hS
 refine r1 hr h rfl (rvA H 0 A26 Z26 O3) ⟨rfl,H.out⟩
 refine rg fun K k=>cps 1 h rfl fun a h=>?_
 obtain ⟨y5,f5,hS⟩:=bo hS
 refine z_callR (data:=y5) h H rfl rfl rfl (dC call241 (lists_numbers_ok (x0:=x0) f5 (rp0.hz H.zin))) fun v8_6 Z w hsub X H r8_6 a h=>?_
 have rp0:=rp0.sub hsub
 refine s1 h rfl (v_len U231 rfl (r8_6.at H.zin)) fun a h=>cps 1 h rfl fun a h=>cz k<|lb ?_
 obtain ⟨B8,eB8,hS⟩:=bv hS
 refine lpJ (fun mu_ a w=>∃ (Z:FZ) (s8:Int × Bool × Int),loopF B8 mu_ s8=some res∧Fr 25 [(2,(pt p1)),(3,.int .i64 s8.1),(4,.bool s8.2.1),(8,v8_6),(9,.int .i64 (y5.length:Int)),(10,.int .i64 s8.2.2)] a∧HZ w0 Zi Z [.blk p1 (Cel [.int .i64 0,.int .i64 0,S []] 26)] w∧RdZ Z v8_6 1 (eI .i64) y5) KK ⟨_,_,hS,h.to,H,r8_6⟩ ?_
 rintro mu_ a w ⟨Z,s8,hS,h,H,r8_6⟩
 obtain ⟨mu_,rfl,n8,en8,hS⟩:=lpX eB8 hS
 refine rg fun K k=>sB h hS rfl (v_lt rfl rfl) fun z10 e10 hS a h=>cz k<|sq<|cI h hS rfl (fun ec12 hS=>?_) fun ec12 hS=>?_
 refine c_skip<|sb ?_
 refine rg fun K k=>?_
 obtain ⟨c14,hS⟩:=ck hS
 obtain ⟨z15,e15,hS⟩:=bv hS
 refine st_idx h U231 Z2 rfl rfl (r8_6.at H.zin) (fun _=>rfl) z15 c14.1 (by rw [e15];exact gel_some c14) rfl fun a v12 A12 h=>?_
 refine s1 h rfl (v_loadAt1 rfl A12 A2 rfl) fun a h=>cps 1 h rfl fun a h=>cz k<|rg fun K k=>cps 1 h rfl fun a h=>cz k<|cI h hS rfl (fun ec16 hS=>?_) fun ec16 hS=>?_
 refine c_lregion<|cps 2 h rfl fun a h=>sC h H hS rfl (fun y17 f17=>dC call57 (num_Add_ok f17 :)) fun y17 hS w X H a h=>?_
 have A12:=At.ext A12 X
 refine cps 5 h rfl fun a h=>c_lnil<|cO h [2,3,4,8,9,10] O6 fun h=>?_
 refine c_lregion<|sI h hS rfl (v_addw rfl rfl) fun z18 e18 hS a h=>cps 1 h rfl fun a h=>c_lnil ?_
 exact exL (ex2 ⟨lpN en8 hS,h.to,H,r8_6⟩)
 refine c_skip<|cO h [2,3,4,8,9,10] O6 fun h=>?_
 refine c_lregion<|sI h hS rfl (v_addw rfl rfl) fun z19 e19 hS a h=>cps 1 h rfl fun a h=>c_lnil ?_
 exact exL (ex2 ⟨lpN en8 hS,h.to,H,r8_6⟩)
 exact c_exit (ex2 ⟨hS,h.to,H⟩)
theorem lists_Extreme_ok {x0:Bool} {x1:List (V)} {res:V} {w0:World} (hS:lists_Extreme x0 x1=some res) {xv1:Value} (rp1:RdZ (hz w0) xv1 3 vL x1):Calls Tryz.prog 212 [.bool x0,xv1].toArray w0 (Ret fun v w=>v=.agg #[.int .i64 res.k,.int .i64 res.n,S res.s]∧Ext w0 w):=by
 refine en func212 [0,1] O2 fun Q a Zi Z hzs H h hr=>?_
 have rp1:=rp1.sub hzs
 clear hzs
 unfold lists_Extreme at hS
 refine rg fun K k=>zA h H V26 O3 (fun x=>[x]) fun a p1 w X H h=>?_
 refine cz k<|rg fun K k=>cps 1 h rfl fun a h=>?_
 obtain ⟨y2,f2,hS⟩:=bo hS
 refine z_callR (data:=y2) h H rfl rfl rfl (dC call241 (lists_numbers_ok (x0:=x1) f2 (rp1.hz H.zin))) fun v10_3 Z w hsub X H r10_3 a h=>?_
 have rp1:=rp1.sub hsub
 refine cps 1 h rfl fun a h=>cz k<|sq<|rg fun K k=>cps 1 h rfl fun a h=>s1 h rfl (v_len U231 rfl (r10_3.at H.zin)) fun a h=>sB h hS rfl (v_eq rfl rfl) fun z5 e5 hS a h=>cN k h [0,4,5,13] O4 fun h=>?_
 refine cI h hS rfl (fun ec6 hS=>?_) fun ec6 hS=>?_
 refine rg fun K k=>sC h H hS rfl (fun y7 f7=>dC call14 (value_Num_ok f7 :)) fun y7 hS w X H a h=>?_
 refine zS h H 0 Z26 O3 O3 [_] fun w H=>?_
 refine cN k h [4] [_] fun h=>?_
 cases hS
 refine r1 hr h rfl (rvA H 0 A26 Z26 O3) ⟨rfl,H.out⟩
 refine c_skip<|rg fun K k=>cps 1 h rfl fun a h=>?_
 obtain ⟨c8,hS⟩:=ck hS
 obtain ⟨z9,e9,hS⟩:=bv hS
 refine st_idx h U231 Z2 rfl rfl (r10_3.at H.zin) (fun _=>rfl) z9 c8.1 (by rw [e9];exact gel_some c8) rfl fun a v16 A16 h=>?_
 refine s1 h rfl (v_loadAt1 rfl A16 A2 rfl) fun a h=>cps 1 h rfl fun a h=>cN k h [0,4,5,6] O4 fun h=>?_
 obtain ⟨J11,eJ11,hS⟩:=bv hS
 refine sqJ (fun a w=>∃ (Z:FZ) (s11:Int),J11 s11=some res∧Fr 38 [(4,(pt p1)),(6,.int .i64 s11)] a∧HZ w0 Zi Z [.blk p1 (Cel [.int .i64 0,.int .i64 0,S []] 26)] w) ?_ ?_
 rintro a w ⟨Z,s11,hS,h,H⟩
 subst eJ11
 refine rg fun K k=>cps 1 h rfl fun a h=>sC h H hS rfl (fun y12 f12=>dC call14 (value_Num_ok f12 :)) fun y12 hS w X H a h=>?_
 refine zS h H 0 Z26 O3 O3 [_] fun w H=>?_
 refine cz k ?_
 cases hS
 refine r1 hr h rfl (rvA H 0 A26 Z26 O3) ⟨rfl,H.out⟩
 refine rg fun K k=>cps 1 h rfl fun a h=>s1 h rfl (v_len U231 rfl (r10_3.at H.zin)) fun a h=>cps 1 h rfl fun a h=>cz k<|lb ?_
 obtain ⟨B14,eB14,hS⟩:=bv hS
 refine lpJ (fun mu_ a w=>∃ (Z:FZ) (s14:Int × Int),loopF B14 mu_ s14=some res∧Fr 38 [(0,.bool x0),(4,(pt p1)),(6,.int .i64 s14.1),(18,v10_3),(19,.int .i64 (y2.length:Int)),(20,.int .i64 s14.2)] a∧HZ w0 Zi Z [.blk p1 (Cel [.int .i64 0,.int .i64 0,S []] 26)] w∧RdZ Z v10_3 1 (eI .i64) y2) KK ⟨_,_,hS,h.to,H,r10_3⟩ ?_
 rintro mu_ a w ⟨Z,s14,hS,h,H,r10_3⟩
 obtain ⟨mu_,rfl,n14,en14,hS⟩:=lpX eB14 hS
 refine rg fun K k=>sB h hS rfl (v_lt rfl rfl) fun z16 e16 hS a h=>cz k<|sq<|cI h hS rfl (fun ec18 hS=>?_) fun ec18 hS=>?_
 refine c_skip<|sb ?_
 refine rg fun K k=>?_
 obtain ⟨c20,hS⟩:=ck hS
 obtain ⟨z21,e21,hS⟩:=bv hS
 refine st_idx h U231 Z2 rfl rfl (r10_3.at H.zin) (fun _=>rfl) z21 c20.1 (by rw [e21];exact gel_some c20) rfl fun a v22 A22 h=>?_
 refine s1 h rfl (v_loadAt1 rfl A22 A2 rfl) fun a h=>cps 1 h rfl fun a h=>cz k<|rg fun K k=>cps 2 h rfl fun a h=>sB h hS rfl (v_gt rfl rfl) fun z22 e22 hS a h=>cps 1 h rfl fun a h=>sB h hS rfl (v_beq U4 rfl rfl) fun z23 e23 hS a h=>cps 1 h rfl fun a h=>st_g h rfl rfl (gT rfl) rfl rfl (fun e0=>v_move rfl) fun a h=>?_
 refine st_g h rfl rfl (gT rfl) rfl rfl (fun e0=>v_move rfl) fun a h=>?_
 obtain ⟨z24,e24,hS⟩:=bv hS
 refine st_g h rfl rfl (gT rfl) rfl rfl (fun e0=>vB e24 (v_ne (eg e0 rfl) (eg e0 rfl))) fun a h=>?_
 refine sB h hS rfl (v_and rfl rfl) fun z25 e25 hS a h=>cN k h [0,4,6,8,18,19,20,33] O8 fun h=>?_
 refine cI h hS rfl (fun ec26 hS=>?_) fun ec26 hS=>?_
 refine c_lregion<|cps 2 h rfl fun a h=>c_lnil<|c_lregion<|sI h hS rfl (v_addw rfl rfl) fun z27 e27 hS a h=>cps 1 h rfl fun a h=>c_lnil ?_
 exact exL (ex2 ⟨lpN en14 hS,h.to,H,r10_3⟩)
 refine c_skip<|c_lregion<|sI h hS rfl (v_addw rfl rfl) fun z28 e28 hS a h=>cps 1 h rfl fun a h=>c_lnil ?_
 exact exL (ex2 ⟨lpN en14 hS,h.to,H,r10_3⟩)
 exact c_exit (ex2 ⟨hS,h.to,H⟩)
theorem lists_equal_ok {x0:V} {x1:V} {res:Bool} {w0:World} (hS:lists_equal x0 x1=some res):Calls Tryz.prog 242 [(vA x0),(vA x1)].toArray w0 (Ret fun v w=>v=.bool res∧Ext w0 w):=by
 refine en func242 [0,1] O2 fun Q a Zi Z hzs H h hr=>?_
 clear hzs
 unfold lists_equal at hS
 refine rg fun K k=>z_box h H rfl O3 rfl rfl fun a p1 w X H h=>?_
 have H:HZ w0 _ _ [_] _:=H
 refine z_box h H rfl O3 rfl rfl fun a p2 w X H h=>?_
 have H:HZ w0 _ _ O2 _:=H
 refine cps 1 h rfl fun a h=>cz k<|rg fun K k=>s1 h rfl (v_fieldAddr rfl U26 rfl Z3 rfl rfl) fun a h=>s1 h rfl (l1 H 0 A3) fun a h=>s1 h rfl (v_fieldAddr rfl U26 rfl Z3 rfl rfl) fun a h=>s1 h rfl (l1 H 1 A3) fun a h=>sB h hS rfl (v_eq rfl rfl) fun z3 e3 hS a h=>cps 1 h rfl fun a h=>st_g h rfl rfl (gT rfl) rfl rfl (fun e0=>v_fieldAddr rfl U26 rfl Z2 rfl rfl) fun a h=>?_
 refine st_g h rfl rfl (gT rfl) rfl rfl (fun e0=>v_load1 (eg e0 rfl) A2 (H.hp.get 0 rfl) rfl) fun a h=>?_
 refine st_g h rfl rfl (gT rfl) rfl rfl (fun e0=>v_fieldAddr rfl U26 rfl Z2 rfl rfl) fun a h=>?_
 refine st_g h rfl rfl (gT rfl) rfl rfl (fun e0=>v_load1 (eg e0 rfl) A2 (H.hp.get 1 rfl) rfl) fun a h=>?_
 obtain ⟨z4,e4,hS⟩:=bv hS
 refine st_g h rfl rfl (gT rfl) rfl rfl (fun e0=>vB e4 (v_eq (eg e0 rfl) (eg e0 rfl))) fun a h=>?_
 refine sB h hS rfl (v_and rfl rfl) fun z5 e5 hS a h=>cps 1 h rfl fun a h=>st_g h rfl rfl (gT rfl) rfl rfl (fun e0=>v_fieldAddr rfl U26 rfl Z9 rfl rfl) fun a h=>?_
 refine st_g h rfl rfl (gT rfl) rfl rfl (fun e0=>v_load1 (eg e0 rfl) A9 (H.hp.get 0 rfl) rfl) fun a h=>?_
 refine st_g h rfl rfl (gT rfl) rfl rfl (fun e0=>v_fieldAddr rfl U26 rfl Z9 rfl rfl) fun a h=>?_
 refine st_g h rfl rfl (gT rfl) rfl rfl (fun e0=>v_load1 (eg e0 rfl) A9 (H.hp.get 1 rfl) rfl) fun a h=>?_
 obtain ⟨z6,e6,hS⟩:=bv hS
 refine st_g h rfl rfl (gT rfl) rfl rfl (fun e0=>vB e6 (v_seq (eg e0 rfl) (eg e0 rfl))) fun a h=>?_
 refine sB h hS rfl (v_and rfl rfl) fun z7 e7 hS a h=>cps 1 h rfl fun a h=>cN k h [4] [_] fun h=>?_
 cases hS
 refine r1 hr h rfl rfl ⟨rfl,H.out⟩
theorem lists_Count_ok {x0:Int} {x1:Bool} {x2:List (V)} {res:V} {w0:World} (hS:lists_Count x0 x1 x2=some res) {xv2:Value} (rp2:RdZ (hz w0) xv2 3 vL x2):Calls Tryz.prog 216 [.int .i64 x0,.bool x1,xv2].toArray w0 (Ret fun v w=>v=.agg #[.int .i64 res.k,.int .i64 res.n,S res.s]∧Ext w0 w):=by
 refine en func216 [0,1,2] O3 fun Q a Zi Z hzs H h hr=>?_
 have rp2:=rp2.sub hzs
 clear hzs
 unfold lists_Count at hS
 refine rg fun K k=>zA h H V26 O3 (fun x=>[x]) fun a p1 w X H h=>?_
 refine cz k<|rg fun K k=>cps 1 h rfl fun a h=>cz k ?_
 obtain ⟨J3,eJ3,hS⟩:=bv hS
 refine sqJ (fun a w=>∃ (Z:FZ) (s3:Int),J3 s3=some res∧Fr 30 [(6,(pt p1)),(7,.int .i64 s3)] a∧HZ w0 Zi Z [.blk p1 (Cel [.int .i64 0,.int .i64 0,S []] 26)] w) ?_ ?_
 rintro a w ⟨Z,s3,hS,h,H⟩
 subst eJ3
 refine rg fun K k=>cps 1 h rfl fun a h=>sC h H hS rfl (fun y4 f4=>dC call55 (num_Of_ok f4 :)) fun y4 hS w X H a h=>?_
 refine cps 2 h rfl fun a h=>sC h H hS rfl (fun y5 f5=>dC call116 (value_Made_ok f5 :)) fun y5 hS w X H a h=>?_
 refine zS h H 0 Z26 O3 O3 [_] fun w H=>?_
 refine cN k h [6] [_] fun h=>?_
 cases hS
 refine r1 hr h rfl (rvA H 0 A26 Z26 O3) ⟨rfl,H.out⟩
 refine rg fun K k=>cps 1 h rfl fun a h=>s1 h rfl (v_len U63 rfl (rp2.at H.zin)) fun a h=>cps 1 h rfl fun a h=>cz k<|lb ?_
 obtain ⟨B7,eB7,hS⟩:=bv hS
 refine lpJ (fun mu_ a w=>∃ (Z:FZ) (s7:Int × Int),loopF B7 mu_ s7=some res∧Fr 30 [(0,.int .i64 x0),(1,.bool x1),(6,(pt p1)),(7,.int .i64 s7.1),(10,xv2),(11,.int .i64 (x2.length:Int)),(12,.int .i64 s7.2)] a∧HZ w0 Zi Z [.blk p1 (Cel [.int .i64 0,.int .i64 0,S []] 26)] w∧RdZ Z xv2 3 vL x2) KK ⟨_,_,hS,h.to,H,rp2⟩ ?_
 rintro mu_ a w ⟨Z,s7,hS,h,H,rp2⟩
 obtain ⟨mu_,rfl,n7,en7,hS⟩:=lpX eB7 hS
 refine rg fun K k=>sB h hS rfl (v_lt rfl rfl) fun z9 e9 hS a h=>cz k<|sq<|cI h hS rfl (fun ec11 hS=>?_) fun ec11 hS=>?_
 refine c_skip<|sb ?_
 refine rg fun K k=>?_
 obtain ⟨c13,hS⟩:=ck hS
 obtain ⟨z14,e14,hS⟩:=bv hS
 refine st_idx h U63 Z26 rfl rfl (rp2.at H.zin) (fun _=>rfl) z14 c13.1 (by rw [e14];exact gel_some c13) rfl fun a v14 A14 h=>?_
 refine s1 h rfl (v_loadAtA O3 rfl A14 A26 Z26 rfl rfl) fun a h=>zA h H V26 O3 (fun x=>[_,x]) fun a p15 w X H h=>?_
 have A14:=At.ext A14 X
 refine zS h H 1 Z26 O3 O3 O2 fun w H=>?_
 refine cz k<|rg fun K k=>s1 h rfl (v_fieldAddr rfl U26 rfl Z3 rfl rfl) fun a h=>s1 h rfl (l1 H 1 A3) fun a h=>cps 1 h rfl fun a h=>sB h hS rfl (v_eq rfl rfl) fun z16 e16 hS a h=>cps 1 h rfl fun a h=>sB h hS rfl (v_beq U4 rfl rfl) fun z17 e17 hS a h=>cN k h [0,1,6,7,10,11,12,21] O8 fun h=>?_
 refine cI h hS rfl (fun ec18 hS=>?_) fun ec18 hS=>?_
 refine c_lregion<|cps 1 h rfl fun a h=>sI h hS rfl (v_addw rfl rfl) fun z19 e19 hS a h=>cps 1 h rfl fun a h=>c_lnil<|c_lregion<|sI h hS rfl (v_addw rfl rfl) fun z20 e20 hS a h=>cps 1 h rfl fun a h=>c_lnil ?_
 exact exL (ex2 ⟨lpN en7 hS,h.to,(H.keepN 1 rfl),rp2⟩)
 refine c_skip<|c_lregion<|sI h hS rfl (v_addw rfl rfl) fun z21 e21 hS a h=>cps 1 h rfl fun a h=>c_lnil ?_
 exact exL (ex2 ⟨lpN en7 hS,h.to,(H.keepN 1 rfl),rp2⟩)
 exact c_exit (ex2 ⟨hS,h.to,H⟩)
theorem lists_CountIf_ok {x0:V} {x1:List (V)} {res:V} {w0:World} (hS:lists_CountIf x0 x1=some res) {xv1:Value} (rp1:RdZ (hz w0) xv1 3 vL x1):Calls Tryz.prog 218 [(vA x0),xv1].toArray w0 (Ret fun v w=>v=.agg #[.int .i64 res.k,.int .i64 res.n,S res.s]∧Ext w0 w):=by
 refine en func218 [0,1] O2 fun Q a Zi Z hzs H h hr=>?_
 have rp1:=rp1.sub hzs
 clear hzs
 unfold lists_CountIf at hS
 refine rg fun K k=>z_box h H rfl O3 rfl rfl fun a p1 w X H h=>?_
 have H:HZ w0 _ _ [_] _:=H
 refine zA h H V26 O3 (fun x=>[_,x]) fun a p2 w X H h=>?_
 refine cz k<|rg fun K k=>cps 1 h rfl fun a h=>cz k ?_
 obtain ⟨J4,eJ4,hS⟩:=bv hS
 refine sqJ (fun a w=>∃ (Z:FZ) (s4:Int),J4 s4=some res∧Fr 25 [(4,(pt p2)),(5,.int .i64 s4)] a∧HZ w0 Zi Z [.blk p1 (Cel (vL x0) 26),.blk p2 (Cel [.int .i64 0,.int .i64 0,S []] 26)] w) ?_ ?_
 rintro a w ⟨Z,s4,hS,h,H⟩
 subst eJ4
 refine rg fun K k=>cps 1 h rfl fun a h=>sC h H hS rfl (fun y5 f5=>dC call55 (num_Of_ok f5 :)) fun y5 hS w X H a h=>?_
 refine cps 2 h rfl fun a h=>sC h H hS rfl (fun y6 f6=>dC call116 (value_Made_ok f6 :)) fun y6 hS w X H a h=>?_
 refine zS h H 1 Z26 O3 O3 O2 fun w H=>?_
 refine cN k h [4] [_] fun h=>?_
 cases hS
 refine r1 hr h rfl (rvA H 1 A26 Z26 O3) ⟨rfl,H.out⟩
 refine rg fun K k=>cps 1 h rfl fun a h=>s1 h rfl (v_len U63 rfl (rp1.at H.zin)) fun a h=>cps 1 h rfl fun a h=>cz k<|lb ?_
 obtain ⟨B8,eB8,hS⟩:=bv hS
 refine lpJ (fun mu_ a w=>∃ (Z:FZ) (s8:Int × Int),loopF B8 mu_ s8=some res∧Fr 25 [(2,(pt p1)),(4,(pt p2)),(5,.int .i64 s8.1),(8,xv1),(9,.int .i64 (x1.length:Int)),(10,.int .i64 s8.2)] a∧HZ w0 Zi Z [.blk p1 (Cel (vL x0) 26),.blk p2 (Cel [.int .i64 0,.int .i64 0,S []] 26)] w∧RdZ Z xv1 3 vL x1) KK ⟨_,_,hS,h.to,H,rp1⟩ ?_
 rintro mu_ a w ⟨Z,s8,hS,h,H,rp1⟩
 obtain ⟨mu_,rfl,n8,en8,hS⟩:=lpX eB8 hS
 refine rg fun K k=>sB h hS rfl (v_lt rfl rfl) fun z10 e10 hS a h=>cz k<|sq<|cI h hS rfl (fun ec12 hS=>?_) fun ec12 hS=>?_
 refine c_skip<|sb ?_
 refine rg fun K k=>?_
 obtain ⟨c14,hS⟩:=ck hS
 obtain ⟨z15,e15,hS⟩:=bv hS
 refine st_idx h U63 Z26 rfl rfl (rp1.at H.zin) (fun _=>rfl) z15 c14.1 (by rw [e15];exact gel_some c14) rfl fun a v12 A12 h=>?_
 refine s1 h rfl (v_loadAtA O3 rfl A12 A26 Z26 rfl rfl) fun a h=>zA h H V26 O3 (fun x=>[_,_,x]) fun a p16 w X H h=>?_
 have A12:=At.ext A12 X
 refine zS h H 2 Z26 O3 O3 O3 fun w H=>?_
 refine cz k<|rg fun K k=>s1 h rfl (lA H 2 A26 Z26 O3) fun a h=>s1 h rfl (lA H 0 A26 Z26 O3) fun a h=>sC h H hS rfl (fun y17 f17=>dC call242 (lists_equal_ok f17 :)) fun y17 hS w X H a h=>?_
 refine cN k h [2,4,5,8,9,10,16] O7 fun h=>?_
 refine cI h hS rfl (fun ec18 hS=>?_) fun ec18 hS=>?_
 refine c_lregion<|cps 1 h rfl fun a h=>sI h hS rfl (v_addw rfl rfl) fun z19 e19 hS a h=>cps 1 h rfl fun a h=>c_lnil<|c_lregion<|sI h hS rfl (v_addw rfl rfl) fun z20 e20 hS a h=>cps 1 h rfl fun a h=>c_lnil ?_
 exact exL (ex2 ⟨lpN en8 hS,h.to,(H.keepN 2 rfl),rp1⟩)
 refine c_skip<|c_lregion<|sI h hS rfl (v_addw rfl rfl) fun z21 e21 hS a h=>cps 1 h rfl fun a h=>c_lnil ?_
 exact exL (ex2 ⟨lpN en8 hS,h.to,(H.keepN 2 rfl),rp1⟩)
 exact c_exit (ex2 ⟨hS,h.to,H⟩)
theorem lists_SumIf_ok {x0:V} {x1:List (V)} {res:V} {w0:World} (hS:lists_SumIf x0 x1=some res) {xv1:Value} (rp1:RdZ (hz w0) xv1 3 vL x1):Calls Tryz.prog 219 [(vA x0),xv1].toArray w0 (Ret fun v w=>v=.agg #[.int .i64 res.k,.int .i64 res.n,S res.s]∧Ext w0 w):=by
 refine en func219 [0,1] O2 fun Q a Zi Z hzs H h hr=>?_
 have rp1:=rp1.sub hzs
 clear hzs
 unfold lists_SumIf at hS
 refine rg fun K k=>z_box h H rfl O3 rfl rfl fun a p1 w X H h=>?_
 have H:HZ w0 _ _ [_] _:=H
 refine zA h H V26 O3 (fun x=>[_,x]) fun a p2 w X H h=>?_
 refine cz k<|rg fun K k=>cps 1 h rfl fun a h=>cz k ?_
 have H:=H.nilRow 26 3 rfl
 have H:HZ w0 _ _ O3 _:=H
 obtain ⟨J4,eJ4,hS⟩:=bv hS
 refine sqJ (fun a w=>∃ (Z:FZ) (s4:(List (V))) (sv5:Value),J4 s4=some res∧Fr 24 [(4,(pt p2)),(5,sv5)] a∧HZ w0 Zi Z [.blk p1 (Cel (vL x0) 26),.blk p2 (Cel [.int .i64 0,.int .i64 0,S []] 26),.row 26 3 sv5 (s4:List (V)).length ((s4:List (V)).flatMap vL)] w) ?_ ?_
 rintro a w ⟨Z,s4,sv5,hS,h,H⟩
 subst eJ4
 refine rg fun K k=>cps 1 h rfl fun a h=>sC h H hS rfl (fun y6 f6=>dC call214 (lists_Sum_ok f6 (H.rowZ (i:=2) (enc:=vL) rfl) :)) fun y6 hS w X H a h=>?_
 refine zS h H 1 Z26 O3 O3 O3 fun w H=>?_
 refine cz k ?_
 cases hS
 refine r1 hr h rfl (rvA H 1 A26 Z26 O3) ⟨rfl,H.out⟩
 refine rg fun K k=>cps 1 h rfl fun a h=>s1 h rfl (v_len U63 rfl (rp1.at H.zin)) fun a h=>cps 1 h rfl fun a h=>cz k<|lb ?_
 obtain ⟨B8,eB8,hS⟩:=bv hS
 refine lpJ (fun mu_ a w=>∃ (Z:FZ) (s8:Int × (List (V))) (sv10:Value),loopF B8 mu_ s8=some res∧Fr 24 [(2,(pt p1)),(4,(pt p2)),(5,sv10),(8,xv1),(9,.int .i64 (x1.length:Int)),(10,.int .i64 s8.1)] a∧HZ w0 Zi Z [.blk p1 (Cel (vL x0) 26),.blk p2 (Cel [.int .i64 0,.int .i64 0,S []] 26),.row 26 3 sv10 (s8.2:List (V)).length ((s8.2:List (V)).flatMap vL)] w∧RdZ Z xv1 3 vL x1) KK ⟨_,_,_,hS,h.to,H,rp1⟩ ?_
 rintro mu_ a w ⟨Z,s8,sv10,hS,h,H,rp1⟩
 obtain ⟨mu_,rfl,n8,en8,hS⟩:=lpX eB8 hS
 refine rg fun K k=>sB h hS rfl (v_lt rfl rfl) fun z11 e11 hS a h=>cz k<|sq<|cI h hS rfl (fun ec13 hS=>?_) fun ec13 hS=>?_
 refine c_skip<|sb ?_
 refine rg fun K k=>?_
 obtain ⟨c15,hS⟩:=ck hS
 obtain ⟨z16,e16,hS⟩:=bv hS
 refine st_idx h U63 Z26 rfl rfl (rp1.at H.zin) (fun _=>rfl) z16 c15.1 (by rw [e16];exact gel_some c15) rfl fun a v12 A12 h=>?_
 refine s1 h rfl (v_loadAtA O3 rfl A12 A26 Z26 rfl rfl) fun a h=>zA h H V26 O3 (fun x=>[_,_,_,x]) fun a p17 w X H h=>?_
 have A12:=At.ext A12 X
 refine zS h H 3 Z26 O3 O3 O4 fun w H=>?_
 refine cz k<|rg fun K k=>s1 h rfl (lA H 3 A26 Z26 O3) fun a h=>s1 h rfl (lA H 0 A26 Z26 O3) fun a h=>sC h H hS rfl (fun y18 f18=>dC call242 (lists_equal_ok f18 :)) fun y18 hS w X H a h=>?_
 refine cN k h [2,4,5,7,8,9,10,16] O8 fun h=>?_
 refine cI h hS rfl (fun ec19 hS=>?_) fun ec19 hS=>?_
 refine c_lregion<|cps 1 h rfl fun a h=>s1 h rfl (lA H 3 A26 Z26 O3) fun a h=>z_slice (enc:=vL) ([z16]:List (V)) h H U63 Z26 V26 rfl (zl:=[.int .i64 0,.int .i64 0,S []]) kR (plA_get 1 3) [_] O3 rfl rfl rfl rfl rfl fun a v19_20 Z w hsub X H r19_20 h=>?_
 have rp1:=rp1.sub hsub
 obtain ⟨c22,hS⟩:=ck hS
 obtain ⟨z23,e23,hS⟩:=bv hS
 refine z_appendS (enc:=vL) (out:=s8.2) (data:=[z16]) h H 2 rfl U63 app26 rfl rfl rfl r19_20 (fun _=>rfl) (fun _ _=>rfl) c22 rfl fun a v20_21 w H h=>?_
 rw [←e23] at H
 have H:HZ w0 _ _ O4 _:=H
 refine cps 1 h rfl fun a h=>c_lnil<|cO h [2,4,5,8,9,10] O6 fun h=>?_
 refine c_lregion<|sI h hS rfl (v_addw rfl rfl) fun z24 e24 hS a h=>cps 1 h rfl fun a h=>c_lnil ?_
 exact exL (ex3 ⟨lpN en8 hS,h.to,(H.keepN 3 rfl),rp1⟩)
 refine c_skip<|c_lregion<|sI h hS rfl (v_addw rfl rfl) fun z25 e25 hS a h=>cps 1 h rfl fun a h=>c_lnil ?_
 exact exL (ex3 ⟨lpN en8 hS,h.to,(H.keepN 3 rfl),rp1⟩)
 exact c_exit (ex3 ⟨hS,h.to,H⟩)
theorem lists_Match_ok {x0:V} {x1:List (V)} {res:V} {w0:World} (hS:lists_Match x0 x1=some res) {xv1:Value} (rp1:RdZ (hz w0) xv1 3 vL x1):Calls Tryz.prog 221 [(vA x0),xv1].toArray w0 (Ret fun v w=>v=.agg #[.int .i64 res.k,.int .i64 res.n,S res.s]∧Ext w0 w):=by
 refine en func221 [0,1] O2 fun Q a Zi Z hzs H h hr=>?_
 have rp1:=rp1.sub hzs
 clear hzs
 unfold lists_Match at hS
 refine rg fun K k=>z_box h H rfl O3 rfl rfl fun a p1 w X H h=>?_
 have H:HZ w0 _ _ [_] _:=H
 refine zA h H V26 O3 (fun x=>[_,x]) fun a p2 w X H h=>?_
 refine cz k ?_
 obtain ⟨J4,eJ4,hS⟩:=bv hS
 refine sqJ (fun a w=>∃ (Z:FZ) (s4:Int × Int × (List UInt8)),J4 s4=some res∧Fr 25 [(4,(pt p2))] a∧HZ w0 Zi Z [.blk p1 (Cel (vL x0) 26),.blk p2 (Cel [.int .i64 s4.1,.int .i64 s4.2.1,S s4.2.2] 26)] w) ?_ ?_
 rintro a w ⟨Z,s4,hS,h,H⟩
 subst eJ4
 refine rg fun K k=>sC h H hS rfl (fun y5 f5=>dC call21 (value_Fail_ok f5 :)) fun y5 hS w X H a h=>?_
 refine zS h H 1 Z26 O3 O3 O2 fun w H=>?_
 refine cz k ?_
 cases hS
 refine r1 hr h rfl (rvA H 1 A26 Z26 O3) ⟨rfl,H.out⟩
 refine rg fun K k=>cps 1 h rfl fun a h=>s1 h rfl (v_len U63 rfl (rp1.at H.zin)) fun a h=>cps 1 h rfl fun a h=>cz k<|lb ?_
 obtain ⟨B7,eB7,hS⟩:=bv hS
 refine lpJ (fun mu_ a w=>∃ (Z:FZ) (s7:Int × Int × Int × (List UInt8)),loopF B7 mu_ s7=some res∧Fr 25 [(2,(pt p1)),(4,(pt p2)),(7,xv1),(8,.int .i64 (x1.length:Int)),(9,.int .i64 s7.1)] a∧HZ w0 Zi Z [.blk p1 (Cel (vL x0) 26),.blk p2 (Cel [.int .i64 s7.2.1,.int .i64 s7.2.2.1,S s7.2.2.2] 26)] w∧RdZ Z xv1 3 vL x1) KK ⟨_,_,hS,h.to,H,rp1⟩ ?_
 rintro mu_ a w ⟨Z,s7,hS,h,H,rp1⟩
 obtain ⟨mu_,rfl,n7,en7,hS⟩:=lpX eB7 hS
 refine rg fun K k=>sB h hS rfl (v_lt rfl rfl) fun z9 e9 hS a h=>cz k<|sq<|cI h hS rfl (fun ec11 hS=>?_) fun ec11 hS=>?_
 refine c_skip<|sb ?_
 refine rg fun K k=>cps 1 h rfl fun a h=>?_
 obtain ⟨c13,hS⟩:=ck hS
 obtain ⟨z14,e14,hS⟩:=bv hS
 refine st_idx h U63 Z26 rfl rfl (rp1.at H.zin) (fun _=>rfl) z14 c13.1 (by rw [e14];exact gel_some c13) rfl fun a v12 A12 h=>?_
 refine s1 h rfl (v_loadAtA O3 rfl A12 A26 Z26 rfl rfl) fun a h=>zA h H V26 O3 (fun x=>[_,_,x]) fun a p15 w X H h=>?_
 have A12:=At.ext A12 X
 refine cps 1 h rfl fun a h=>zS h H 2 Z26 O3 O3 O3 fun w H=>?_
 refine cz k<|rg fun K k=>s1 h rfl (lA H 2 A26 Z26 O3) fun a h=>s1 h rfl (lA H 0 A26 Z26 O3) fun a h=>sC h H hS rfl (fun y16 f16=>dC call242 (lists_equal_ok f16 :)) fun y16 hS w X H a h=>?_
 refine cN k h [2,4,5,7,8,9,16] O7 fun h=>?_
 refine cI h hS rfl (fun ec17 hS=>?_) fun ec17 hS=>?_
 refine rg fun K k=>cps 1 h rfl fun a h=>sI h hS rfl (v_addw rfl rfl) fun z18 e18 hS a h=>sC h H hS rfl (fun y19 f19=>dC call55 (num_Of_ok f19 :)) fun y19 hS w X H a h=>?_
 refine cps 2 h rfl fun a h=>sC h H hS rfl (fun y20 f20=>dC call116 (value_Made_ok f20 :)) fun y20 hS w X H a h=>?_
 refine zS h H 1 Z26 O3 O3 O3 fun w H=>?_
 refine cN k h [4] [_] fun h=>?_
 cases hS
 refine r1 hr h rfl (rvA H 1 A26 Z26 O3) ⟨rfl,H.out⟩
 refine c_skip<|c_lregion<|sI h hS rfl (v_addw rfl rfl) fun z21 e21 hS a h=>cps 1 h rfl fun a h=>c_lnil ?_
 exact exL (ex2 ⟨lpN en7 hS,h.to,(H.keepN 2 rfl),rp1⟩)
 exact c_exit (ex2 ⟨hS,h.to,H⟩)
theorem lists_Index_ok {x0:Int} {x1:Int} {x2:Int} {x3:List (V)} {res:V} {w0:World} (hS:lists_Index x0 x1 x2 x3=some res) {xv3:Value} (rp3:RdZ (hz w0) xv3 3 vL x3):Calls Tryz.prog 222 [.int .i64 x0,.int .i64 x1,.int .i64 x2,xv3].toArray w0 (Ret fun v w=>v=.agg #[.int .i64 res.k,.int .i64 res.n,S res.s]∧Ext w0 w):=by
 refine en func222 [0,1,2,3] O4 fun Q a Zi Z hzs H h hr=>?_
 have rp3:=rp3.sub hzs
 clear hzs
 unfold lists_Index at hS
 refine rg fun K k=>zA h H V26 O3 (fun x=>[x]) fun a p1 w X H h=>?_
 refine cz k<|sq<|rg fun K k=>cps 1 h rfl fun a h=>sB h hS rfl (v_lt rfl rfl) fun z3 e3 hS a h=>cps 1 h rfl fun a h=>st_g h rfl rfl (gF rfl) rfl rfl (fun e0=>v_move rfl) fun a h=>?_
 obtain ⟨z4,e4,hS⟩:=bv hS
 refine st_g h rfl rfl (gF rfl) rfl rfl (fun e0=>vB e4 (v_lt (eg e0 rfl) rfl)) fun a h=>?_
 refine sB h hS rfl (v_or rfl rfl) fun z5 e5 hS a h=>cps 1 h rfl fun a h=>st_g h rfl rfl (gF rfl) rfl rfl (fun e0=>v_move rfl) fun a h=>?_
 obtain ⟨z6,e6,hS⟩:=bv hS
 refine st_g h rfl rfl (gF rfl) rfl rfl (fun e0=>vB e6 (v_lt (eg e0 rfl) rfl)) fun a h=>?_
 refine sB h hS rfl (v_or rfl rfl) fun z7 e7 hS a h=>cps 1 h rfl fun a h=>st_g h rfl rfl (gF rfl) rfl rfl (fun e0=>v_move rfl) fun a h=>?_
 refine st_g h rfl rfl (gF rfl) rfl rfl (fun e0=>v_move rfl) fun a h=>?_
 obtain ⟨z8,e8,hS⟩:=bv hS
 refine st_g h rfl rfl (gF rfl) rfl rfl (fun e0=>vB e8 (v_gt (eg e0 rfl) (eg e0 rfl))) fun a h=>?_
 refine sB h hS rfl (v_or rfl rfl) fun z9 e9 hS a h=>cps 1 h rfl fun a h=>st_g h rfl rfl (gF rfl) rfl rfl (fun e0=>v_move rfl) fun a h=>?_
 refine st_g h rfl rfl (gF rfl) rfl rfl (fun e0=>v_move rfl) fun a h=>?_
 refine st_g h rfl rfl (gF rfl) rfl rfl (fun e0=>v_len U63 (eg e0 rfl) (rp3.at H.zin)) fun a h=>?_
 refine st_g h rfl rfl (gF rfl) rfl rfl (fun e0=>v_move rfl) fun a h=>?_
 obtain ⟨c10,hS⟩:=ck hS
 obtain ⟨z11,e11,hS⟩:=bv hS
 refine st_g h rfl rfl (gF rfl) rfl rfl (fun e0=>vI e11 (v_quow (eg e0 rfl) (eg e0 rfl) (c10 e0))) fun a h=>?_
 obtain ⟨z12,e12,hS⟩:=bv hS
 refine st_g h rfl rfl (gF rfl) rfl rfl (fun e0=>vB e12 (v_gt (eg e0 rfl) (eg e0 rfl))) fun a h=>?_
 refine sB h hS rfl (v_or rfl rfl) fun z13 e13 hS a h=>cN k h [0,1,2,3,8,31] O6 fun h=>?_
 refine cI h hS rfl (fun ec14 hS=>?_) fun ec14 hS=>?_
 refine rg fun K k=>sC h H hS rfl (fun y15 f15=>dC call21 (value_Fail_ok f15 :)) fun y15 hS w X H a h=>?_
 refine zS h H 0 Z26 O3 O3 [_] fun w H=>?_
 refine cN k h [8] [_] fun h=>?_
 cases hS
 refine r1 hr h rfl (rvA H 0 A26 Z26 O3) ⟨rfl,H.out⟩
 refine c_skip<|rg fun K k=>cps 2 h rfl fun a h=>sI h hS rfl (v_subw rfl rfl) fun z16 e16 hS a h=>cps 1 h rfl fun a h=>sI h hS rfl (v_mulw rfl rfl) fun z17 e17 hS a h=>cps 1 h rfl fun a h=>sI h hS rfl (v_subw rfl rfl) fun z18 e18 hS a h=>sI h hS rfl (v_addw rfl rfl) fun z19 e19 hS a h=>?_
 obtain ⟨c20,hS⟩:=ck hS
 obtain ⟨z21,e21,hS⟩:=bv hS
 refine st_idx h U63 Z26 rfl rfl (rp3.at H.zin) (fun _=>rfl) z21 c20.1 (by rw [e21];exact gel_some c20) rfl fun a v41 A41 h=>?_
 refine s1 h rfl (v_loadAtA O3 rfl A41 A26 Z26 rfl rfl) fun a h=>zS h H 0 Z26 O3 O3 [_] fun w H=>?_
 refine cN k h [8] [_] fun h=>?_
 cases hS
 refine r1 hr h rfl (rvA H 0 A26 Z26 O3) ⟨rfl,H.out⟩
theorem lists_VLookup_ok {x0:V} {x1:Int} {x2:Int} {x3:List (V)} {res:V} {w0:World} (hS:lists_VLookup x0 x1 x2 x3=some res) {xv3:Value} (rp3:RdZ (hz w0) xv3 3 vL x3):Calls Tryz.prog 223 [(vA x0),.int .i64 x1,.int .i64 x2,xv3].toArray w0 (Ret fun v w=>v=.agg #[.int .i64 res.k,.int .i64 res.n,S res.s]∧Ext w0 w):=by
 refine en func223 [0,1,2,3] O4 fun Q a Zi Z hzs H h hr=>?_
 have rp3:=rp3.sub hzs
 clear hzs
 unfold lists_VLookup at hS
 refine rg fun K k=>z_box h H rfl O3 rfl rfl fun a p1 w X H h=>?_
 have H:HZ w0 _ _ [_] _:=H
 refine zA h H V26 O3 (fun x=>[_,x]) fun a p2 w X H h=>?_
 refine cz k<|sq<|rg fun K k=>cps 1 h rfl fun a h=>sB h hS rfl (v_lt rfl rfl) fun z4 e4 hS a h=>cps 1 h rfl fun a h=>st_g h rfl rfl (gF rfl) rfl rfl (fun e0=>v_move rfl) fun a h=>?_
 obtain ⟨z5,e5,hS⟩:=bv hS
 refine st_g h rfl rfl (gF rfl) rfl rfl (fun e0=>vB e5 (v_lt (eg e0 rfl) rfl)) fun a h=>?_
 refine sB h hS rfl (v_or rfl rfl) fun z6 e6 hS a h=>cps 1 h rfl fun a h=>st_g h rfl rfl (gF rfl) rfl rfl (fun e0=>v_move rfl) fun a h=>?_
 refine st_g h rfl rfl (gF rfl) rfl rfl (fun e0=>v_move rfl) fun a h=>?_
 obtain ⟨z7,e7,hS⟩:=bv hS
 refine st_g h rfl rfl (gF rfl) rfl rfl (fun e0=>vB e7 (v_gt (eg e0 rfl) (eg e0 rfl))) fun a h=>?_
 refine sB h hS rfl (v_or rfl rfl) fun z8 e8 hS a h=>cN k h [1,2,3,4,8,20] O6 fun h=>?_
 refine cI h hS rfl (fun ec9 hS=>?_) fun ec9 hS=>?_
 refine rg fun K k=>sC h H hS rfl (fun y10 f10=>dC call21 (value_Fail_ok f10 :)) fun y10 hS w X H a h=>?_
 refine zS h H 1 Z26 O3 O3 O2 fun w H=>?_
 refine cN k h [8] [_] fun h=>?_
 cases hS
 refine r1 hr h rfl (rvA H 1 A26 Z26 O3) ⟨rfl,H.out⟩
 refine c_skip ?_
 obtain ⟨J12,eJ12,hS⟩:=bv hS
 refine sqJ (fun a w=>∃ (Z:FZ) (s12:Int × Int × (List UInt8)),J12 s12=some res∧Fr 45 [(8,(pt p2))] a∧HZ w0 Zi Z [.blk p1 (Cel (vL x0) 26),.blk p2 (Cel [.int .i64 s12.1,.int .i64 s12.2.1,S s12.2.2] 26)] w) ?_ ?_
 rintro a w ⟨Z,s12,hS,h,H⟩
 subst eJ12
 refine rg fun K k=>sC h H hS rfl (fun y13 f13=>dC call21 (value_Fail_ok f13 :)) fun y13 hS w X H a h=>?_
 refine zS h H 1 Z26 O3 O3 O2 fun w H=>?_
 refine cz k ?_
 cases hS
 refine r1 hr h rfl (rvA H 1 A26 Z26 O3) ⟨rfl,H.out⟩
 refine rg fun K k=>cps 1 h rfl fun a h=>cz k<|lb ?_
 obtain ⟨B15,eB15,hS⟩:=bv hS
 refine lpJ (fun mu_ a w=>∃ (Z:FZ) (s15:Int × Int × Int × (List UInt8)),loopF B15 mu_ s15=some res∧Fr 45 [(1,.int .i64 x1),(2,.int .i64 x2),(3,xv3),(4,(pt p1)),(8,(pt p2)),(9,.int .i64 s15.1)] a∧HZ w0 Zi Z [.blk p1 (Cel (vL x0) 26),.blk p2 (Cel [.int .i64 s15.2.1,.int .i64 s15.2.2.1,S s15.2.2.2] 26)] w∧RdZ Z xv3 3 vL x3) KK ⟨_,_,hS,h.to,H,rp3⟩ ?_
 rintro mu_ a w ⟨Z,s15,hS,h,H,rp3⟩
 obtain ⟨mu_,rfl,n15,en15,hS⟩:=lpX eB15 hS
 refine sq<|rg fun K k=>cps 2 h rfl fun a h=>sI h hS rfl (v_addw rfl rfl) fun z18 e18 hS a h=>cps 1 h rfl fun a h=>s1 h rfl (v_len U63 rfl (rp3.at H.zin)) fun a h=>sB h hS rfl (v_le rfl rfl) fun z19 e19 hS a h=>cN k h [1,2,3,4,8,9,27] O7 fun h=>?_
 refine cI h hS rfl (fun ec20 hS=>?_) fun ec20 hS=>?_
 refine c_skip<|sb ?_
 refine fl h ?_
 refine fcps 2 rfl ?_
 obtain ⟨c22,hS⟩:=ck hS
 obtain ⟨z23,e23,hS⟩:=bv hS
 refine f_op [31,32] rfl rfl rfl rfl false (.rel (fun w' v'=>At w' v' vL z23 0)) at_stab (fun w X=>?_) ?_
 skip
 exact have H:=H.ext X;d_idx U63 Z26 rfl rfl (rp3.at H.zin) (fun _=>rfl) z23 c22.1 (by rw [e23];exact gel_some c22)
 refine f_op [33] rfl rfl rfl rfl false (.eq (vA z23)) trivial (fun w X=>?_) ?_
 intro v33 h33
 exact (v_loadAtA O3 rfl h33 A26 Z26 rfl rfl).doesF
 refine F1 rfl (fun w X=>have H:=H.ext X;lA H 0 A26 Z26 O3) ?_
 refine fC hS rfl (fun y24 f24 w X=>dC call242 (lists_equal_ok f24 :)) fun y24 hS=>?_
 refine fE [1,2,3,4,8,9,36] O7 H fun a w X H h=>?_
 refine cI h hS rfl (fun ec25 hS=>?_) fun ec25 hS=>?_
 refine rg fun K k=>cps 3 h rfl fun a h=>sI h hS rfl (v_addw rfl rfl) fun z26 e26 hS a h=>sI h hS rfl (v_subw rfl rfl) fun z27 e27 hS a h=>?_
 obtain ⟨c28,hS⟩:=ck hS
 obtain ⟨z29,e29,hS⟩:=bv hS
 refine st_idx h U63 Z26 rfl rfl (rp3.at H.zin) (fun _=>rfl) z29 c28.1 (by rw [e29];exact gel_some c28) rfl fun a v42 A42 h=>?_
 refine s1 h rfl (v_loadAtA O3 rfl A42 A26 Z26 rfl rfl) fun a h=>zS h H 1 Z26 O3 O3 O2 fun w H=>?_
 refine cN k h [8] [_] fun h=>?_
 cases hS
 refine r1 hr h rfl (rvA H 1 A26 Z26 O3) ⟨rfl,H.out⟩
 refine c_skip<|c_lregion<|cps 2 h rfl fun a h=>sI h hS rfl (v_addw rfl rfl) fun z30 e30 hS a h=>cps 1 h rfl fun a h=>c_lnil ?_
 exact exL (ex2 ⟨lpN en15 hS,h.to,H,rp3⟩)
 exact c_exit (ex2 ⟨hS,h.to,H⟩)
theorem texts_trimmed_ok {x0:List UInt8} {res:(List UInt8)} {w0:World} (hS:texts_trimmed x0=some res):Calls Tryz.prog 208 [S x0].toArray w0 (Ret fun v w=>v=S res∧Ext w0 w):=by
 refine en func208 [0] [_] fun Q a Zi Z hzs H h hr=>?_
 clear hzs
 unfold texts_trimmed at hS
 refine rg fun K k=>cps 1 h rfl fun a h=>cz k<|rg fun K k=>cps 1 h rfl fun a h=>cz k<|rg fun K k=>cps 1 h rfl fun a h=>cz k ?_
 obtain ⟨J2,eJ2,hS⟩:=bv hS
 refine sqJ (fun a w=>∃ (Z:FZ) (s2:(List UInt8)),J2 s2=some res∧Fr 29 [(3,S s2)] a∧HZ w0 Zi Z [] w) ?_ ?_
 rintro a w ⟨Z,s2,hS,h,H⟩
 subst eJ2
 refine rg fun K k=>cps 2 h rfl fun a h=>cz k ?_
 cases hS
 refine r1 hr h rfl rfl ⟨rfl,H.out⟩
 refine rg fun K k=>cps 1 h rfl fun a h=>s1 h rfl (v_slen U9 rfl) fun a h=>cps 1 h rfl fun a h=>cz k<|lb ?_
 obtain ⟨B4,eB4,hS⟩:=bv hS
 refine lpJ (fun mu_ a w=>∃ (Z:FZ) (s4:(List UInt8) × Bool × Int),loopF B4 mu_ s4=some res∧Fr 29 [(0,S x0),(3,S s4.1),(4,.bool s4.2.1),(7,.int .i64 (x0.length:Int)),(8,.int .i64 s4.2.2)] a∧HZ w0 Zi Z [] w) KK ⟨_,_,hS,h.to,H⟩ ?_
 rintro mu_ a w ⟨Z,s4,hS,h,H⟩
 obtain ⟨mu_,rfl,n4,en4,hS⟩:=lpX eB4 hS
 refine rg fun K k=>sB h hS rfl (v_lt rfl rfl) fun z6 e6 hS a h=>cz k<|sq<|cI h hS rfl (fun ec8 hS=>?_) fun ec8 hS=>?_
 refine c_skip<|sb ?_
 refine rg fun K k=>cps 2 h rfl fun a h=>cz k<|sq<|rg fun K k=>cps 2 h rfl fun a h=>?_
 obtain ⟨c11,hS⟩:=ck hS
 refine sI h hS rfl (v_sidx U9 rfl rfl c11) fun z12 e12 hS a h=>sB h hS rfl (v_eq rfl rfl) fun z13 e13 hS a h=>cN k h [0,3,4,5,7,8,14] O7 fun h=>?_
 refine cI h hS rfl (fun ec14 hS=>?_) fun ec14 hS=>?_
 refine rg fun K k=>cps 1 h rfl fun a h=>sB h hS rfl (v_sne rfl rfl) fun z15 e15 hS a h=>cps 1 h rfl fun a h=>cN k h [0,3,4,7,8] O5 fun h=>?_
 refine c_exit ?_
 refine c_lregion<|sI h hS rfl (v_addw rfl rfl) fun z16 e16 hS a h=>cps 1 h rfl fun a h=>c_lnil ?_
 exact exL (ex2 ⟨lpN en4 hS,h.to,H⟩)
 refine c_skip ?_
 obtain ⟨J18,eJ18,hS⟩:=bv hS
 refine sqJ (fun a w=>∃ (Z:FZ) (s18:(List UInt8)),J18 s18=some res∧Fr 29 [(0,S x0),(3,S s18),(5,.int .i64 s4.2.2),(7,.int .i64 (x0.length:Int)),(8,.int .i64 s4.2.2)] a∧HZ w0 Zi Z [] w) ?_ ?_
 rintro a w ⟨Z,s18,hS,h,H⟩
 subst eJ18
 refine rg fun K k=>cps 1 h rfl fun a h=>cz k<|c_lregion<|cps 4 h rfl fun a h=>sI h hS rfl (v_addw rfl rfl) fun z19 e19 hS a h=>?_
 obtain ⟨c20,hS⟩:=ck hS
 refine sS h hS rfl (v_scut U9 rfl rfl rfl c20) fun z21 e21 hS a h=>?_
 obtain ⟨c22,hS⟩:=ck hS
 refine sS h hS rfl (v_sadd rfl rfl c22) fun z23 e23 hS a h=>cps 1 h rfl fun a h=>c_lnil<|cO h [0,3,4,7,8] O5 fun h=>?_
 refine c_lregion<|sI h hS rfl (v_addw rfl rfl) fun z24 e24 hS a h=>cps 1 h rfl fun a h=>c_lnil ?_
 exact exL (ex2 ⟨lpN en4 hS,h.to,H⟩)
 refine rg fun K k=>cps 1 h rfl fun a h=>cz k<|cI h hS rfl (fun ec25 hS=>?_) fun ec25 hS=>?_
 refine c_lregion<|cps 1 h rfl fun a h=>?_
 obtain ⟨c26,hS⟩:=ck hS
 refine sS h hS rfl (v_sadd rfl rfl c26) fun z27 e27 hS a h=>cps 1 h rfl fun a h=>c_lnil ?_
 exact ex2 ⟨hS,h.to,H⟩
 exact c_skip (ex2 ⟨hS,h.to,H⟩)
 exact c_exit (ex2 ⟨hS,h.to,H⟩)
theorem texts_runes_ok {x0:List UInt8} {res:Int} {w0:World} (hS:texts_runes x0=some res):Calls Tryz.prog 206 [S x0].toArray w0 (Ret fun v w=>v=.int .i64 res∧Ext w0 w):=by
 refine en func206 [0] [_] fun Q a Zi Z hzs H h hr=>?_
 clear hzs
 unfold texts_runes at hS
 refine rg fun K k=>cps 1 h rfl fun a h=>cz k<|rg fun K k=>cps 1 h rfl fun a h=>cz k ?_
 obtain ⟨J2,eJ2,hS⟩:=bv hS
 refine sqJ (fun a w=>∃ (Z:FZ) (s2:Int),J2 s2=some res∧Fr 11 [(3,.int .i64 s2)] a∧HZ w0 Zi Z [] w) ?_ ?_
 rintro a w ⟨Z,s2,hS,h,H⟩
 subst eJ2
 refine rg fun K k=>cps 2 h rfl fun a h=>cz k ?_
 cases hS
 refine r1 hr h rfl rfl ⟨rfl,H.out⟩
 refine rg fun K k=>cps 1 h rfl fun a h=>z_range h H U9 rfl rfl fun a p3 w X H h=>?_
 have H:HZ w0 _ _ [_] _:=H
 refine cz k<|lb ?_
 obtain ⟨B5,eB5,hS⟩:=bv hS
 refine lpJ (fun mu_ a w=>∃ (Z:FZ) (s5:Int × Nat),loopF B5 mu_ s5=some res∧Fr 11 [(3,.int .i64 s5.1),(5,(pt p3))] a∧HZ w0 Zi Z [.blk p3 (.stringIter ⟨(x0:List UInt8).toArray⟩ (s5.2))] w) KK ⟨_,_,hS,h.to,H⟩ ?_
 rintro mu_ a w ⟨Z,s5,hS,h,H⟩
 obtain ⟨mu_,rfl,n5,en5,hS⟩:=lpX eB5 hS
 refine rg fun K k=>z_next h H 0 rfl rfl rfl (hl':=[_]) rfl fun a w H h=>?_
 refine sB h hS rfl (v_next0 rfl) fun z7 e7 hS a h=>cz k<|sq<|cI h hS rfl (fun ec9 hS=>?_) fun ec9 hS=>?_
 refine c_skip<|lb<|c_lregion<|cps 1 h rfl fun a h=>sI h hS rfl (v_addw rfl rfl) fun z11 e11 hS a h=>cps 1 h rfl fun a h=>c_lnil ?_
 exact exL (ex2 ⟨lpN en5 hS,h.to,H⟩)
 exact c_exit (ex2 ⟨hS,h.to,(H.keepN 0 rfl)⟩)
theorem texts_count_ok {x0:Int} {x1:List UInt8} {res:Int × Bool} {w0:World} (hS:texts_count x0 x1=some res):Calls Tryz.prog 210 [.int .i64 x0,S x1].toArray w0 (Ret fun v w=>v=.tuple #[.int .i64 res.1,.bool res.2]∧Ext w0 w):=by
 refine en func210 [0,1] O2 fun Q a Zi Z hzs H h hr=>?_
 clear hzs
 unfold texts_count at hS
 refine rg fun K k=>cps 2 h rfl fun a h=>cz k<|rg fun K k=>cps 1 h rfl fun a h=>sI h hS rfl (v_quow rfl rfl (by decide)) fun z1 e1 hS a h=>cps 1 h rfl fun a h=>cN k h [0,1] O2 fun h=>?_
 refine rg fun K k=>cps 1 h rfl fun a h=>sI h hS rfl (v_max U2 rfl rfl) fun z2 e2 hS a h=>cps 1 h rfl fun a h=>s1 h rfl (v_slen U9 rfl) fun a h=>sI h hS rfl (v_min U2 rfl rfl) fun z3 e3 hS a h=>cps 1 h rfl fun a h=>sB h hS rfl (v_ge rfl rfl) fun z4 e4 hS a h=>cps 2 h rfl fun a h=>cN k h [4,5] O2 fun h=>?_
 cases hS
 refine r2 hr h rfl rfl rfl ⟨rfl,H.out⟩
end Go.Proofs.YtcecjdnkcbfhlaaGreatDoor
