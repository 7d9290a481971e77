/- Joined texts. -/
import Derived.Test.YtcecjdnkcbfhlaaGreatDoorELibC
import Derived.Test.YtcecjdnkcbfhlaaGreatDoorES0
set_option linter.unusedSimpArgs false
set_option linter.unusedVariables false
set_option linter.unusedSectionVars false
namespace Go.Proofs.YtcecjdnkcbfhlaaGreatDoor
open Go.Stp Go.RowKit Go.ValP Go.Sp _root_.Go.Proofs.Tryz
set_option maxRecDepth 100000
theorem value_Num_ok {x0:Int} {res:V} {w0:World} (hS:value_Num x0=some res):Calls Tryz.prog 14 [.int .i64 x0].toArray w0 (Ret fun v w=>v=.agg #[.int .i64 res.k,.int .i64 res.n,S res.s]∧Ext w0 w):=by
 refine en func14 [0] [_] fun Q a Zi Z hzs H h hr=>?_
 clear hzs
 unfold value_Num at hS
 refine rg fun K k=>zA h H V26 O3 (fun x=>[x]) fun a p1 w X H h=>?_
 refine cz k<|rg fun K k=>cps 1 h rfl fun a h=>s1 h rfl (v_build bld26 O2 O3 rfl rfl) fun a h=>zS h H 0 Z26 O3 O3 [_] fun w H=>?_
 refine cz k ?_
 cases hS
 refine r1 hr h rfl (rvA H 0 A26 Z26 O3) ⟨rfl,H.out⟩
theorem value_Fail_ok {x0:Int} {res:V} {w0:World} (hS:value_Fail x0=some res):Calls Tryz.prog 21 [.int .i64 x0].toArray w0 (Ret fun v w=>v=.agg #[.int .i64 res.k,.int .i64 res.n,S res.s]∧Ext w0 w):=by
 refine en func21 [0] [_] fun Q a Zi Z hzs H h hr=>?_
 clear hzs
 unfold value_Fail at hS
 refine rg fun K k=>zA h H V26 O3 (fun x=>[x]) fun a p1 w X H h=>?_
 refine cz k<|rg fun K k=>cps 1 h rfl fun a h=>s1 h rfl (v_build bld26 O2 O3 rfl rfl) fun a h=>zS h H 0 Z26 O3 O3 [_] fun w H=>?_
 refine cz k ?_
 cases hS
 refine r1 hr h rfl (rvA H 0 A26 Z26 O3) ⟨rfl,H.out⟩
theorem value_Bool_ok {x0:Bool} {res:V} {w0:World} (hS:value_Bool x0=some res):Calls Tryz.prog 24 [.bool x0].toArray w0 (Ret fun v w=>v=.agg #[.int .i64 res.k,.int .i64 res.n,S res.s]∧Ext w0 w):=by
 refine en func24 [0] [_] fun Q a Zi Z hzs H h hr=>?_
 clear hzs
 unfold value_Bool at hS
 refine rg fun K k=>zA h H V26 O3 (fun x=>[x]) fun a p1 w X H h=>?_
 refine cz k<|rg fun K k=>s1 h rfl (v_build bld26 [_] O3 rfl rfl) fun a h=>zA h H V26 O3 (fun x=>[_,x]) fun a p2 w X H h=>?_
 refine zS h H 1 Z26 O3 O3 O2 fun w H=>?_
 refine cz k ?_
 obtain ⟨J4,eJ4,hS⟩:=bv hS
 refine sqJ (fun a w=>∃ (Z:FZ) (s4:Int),J4 s4=some res∧Fr 8 [(2,(pt p1)),(3,(pt p2))] a∧HZ w0 Zi Z [.blk p1 (Cel [.int .i64 0,.int .i64 0,S []] 26),.blk p2 (Cel [.int .i64 3,.int .i64 s4,S []] 26)] w) ?_ ?_
 rintro a w ⟨Z,s4,hS,h,H⟩
 subst eJ4
 refine rg fun K k=>s1 h rfl (lA H 1 A26 Z26 O3) fun a h=>zS h H 0 Z26 O3 O3 O2 fun w H=>?_
 refine cz k ?_
 cases hS
 refine r1 hr h rfl (rvA H 0 A26 Z26 O3) ⟨rfl,H.out⟩
 refine rg fun K k=>cps 1 h rfl fun a h=>cz k<|cI h hS rfl (fun ec5 hS=>?_) fun ec5 hS=>?_
 refine c_lregion<|s1 h rfl (v_fieldAddr rfl U26 rfl Z2 rfl rfl) fun a h=>zS h H 1 Z2 [_] O3 O2 fun w H=>?_
 refine c_lnil ?_
 exact ex2 ⟨hS,h.to,H⟩
 exact c_skip (ex2 ⟨hS,h.to,H⟩)
theorem value_Text_ok {x0:List UInt8} {res:V} {w0:World} (hS:value_Text x0=some res):Calls Tryz.prog 28 [S x0].toArray w0 (Ret fun v w=>v=.agg #[.int .i64 res.k,.int .i64 res.n,S res.s]∧Ext w0 w):=by
 refine en func28 [0] [_] fun Q a Zi Z hzs H h hr=>?_
 clear hzs
 unfold value_Text at hS
 refine rg fun K k=>zA h H V26 O3 (fun x=>[x]) fun a p1 w X H h=>?_
 refine cz k<|sq<|rg fun K k=>cps 1 h rfl fun a h=>s1 h rfl (v_slen U9 rfl) fun a h=>sB h hS rfl (v_gt rfl rfl) fun z3 e3 hS a h=>cz k<|cI h hS rfl (fun ec4 hS=>?_) fun ec4 hS=>?_
 refine rg fun K k=>sC h H hS rfl (fun y5 f5=>dC call21 (value_Fail_ok f5 :)) fun y5 hS w X H a h=>?_
 refine zS h H 0 Z26 O3 O3 [_] fun w H=>?_
 refine cN k h [2] [_] fun h=>?_
 cases hS
 refine r1 hr h rfl (rvA H 0 A26 Z26 O3) ⟨rfl,H.out⟩
 refine c_skip<|rg fun K k=>cps 1 h rfl fun a h=>s1 h rfl (v_build bld26 O2 O3 rfl rfl) fun a h=>zS h H 0 Z26 O3 O3 [_] fun w H=>?_
 refine cN k h [2] [_] fun h=>?_
 cases hS
 refine r1 hr h rfl (rvA H 0 A26 Z26 O3) ⟨rfl,H.out⟩
theorem value_Made_ok {x0:Int} {x1:Bool} {res:V} {w0:World} (hS:value_Made x0 x1=some res):Calls Tryz.prog 116 [.int .i64 x0,.bool x1].toArray w0 (Ret fun v w=>v=.agg #[.int .i64 res.k,.int .i64 res.n,S res.s]∧Ext w0 w):=by
 refine en func116 [0,1] O2 fun Q a Zi Z hzs H h hr=>?_
 clear hzs
 unfold value_Made at hS
 refine rg fun K k=>zA h H V26 O3 (fun x=>[x]) fun a p1 w X H h=>?_
 refine cz k<|sq<|rg fun K k=>cps 1 h rfl fun a h=>sB h hS rfl (v_not rfl) fun z3 e3 hS a h=>cz k<|cI h hS rfl (fun ec4 hS=>?_) fun ec4 hS=>?_
 refine rg fun K k=>sC h H hS rfl (fun y5 f5=>dC call21 (value_Fail_ok f5 :)) fun y5 hS w X H a h=>?_
 refine zS h H 0 Z26 O3 O3 [_] fun w H=>?_
 refine cN k h [4] [_] fun h=>?_
 cases hS
 refine r1 hr h rfl (rvA H 0 A26 Z26 O3) ⟨rfl,H.out⟩
 refine c_skip<|rg fun K k=>cps 1 h rfl fun a h=>sC h H hS rfl (fun y6 f6=>dC call14 (value_Num_ok f6 :)) fun y6 hS w X H a h=>?_
 refine zS h H 0 Z26 O3 O3 [_] fun w H=>?_
 refine cN k h [4] [_] fun h=>?_
 cases hS
 refine r1 hr h rfl (rvA H 0 A26 Z26 O3) ⟨rfl,H.out⟩
theorem value_Right_ok {x0:V} {res:Bool} {w0:World} (hS:value_Right x0=some res):Calls Tryz.prog 63 [(vA x0)].toArray w0 (Ret fun v w=>v=.bool res∧Ext w0 w):=by
 refine en func63 [0] [_] fun Q a Zi Z hzs H h hr=>?_
 clear hzs
 unfold value_Right at hS
 refine rg fun K k=>z_box h H rfl O3 rfl rfl fun a p1 w X H h=>?_
 have H:HZ w0 _ _ [_] _:=H
 refine cps 1 h rfl fun a h=>cz k<|sq<|rg fun K k=>s1 h rfl (v_fieldAddr rfl U26 rfl Z3 rfl rfl) fun a h=>s1 h rfl (l1 H 0 A3) fun a h=>cz k<|lb<|rg fun K k=>sB h hS rfl (v_eq rfl rfl) fun z4 e4 hS a h=>cps 1 h rfl fun a h=>cN k h [1,4,5] O3 fun h=>?_
 refine cI h hS rfl (fun ec5 hS=>?_) fun ec5 hS=>?_
 refine rg fun K k=>s1 h rfl (v_fieldAddr rfl U26 rfl Z2 rfl rfl) fun a h=>s1 h rfl (l1 H 0 A2) fun a h=>sB h hS rfl (v_eq rfl rfl) fun z6 e6 hS a h=>cps 1 h rfl fun a h=>st_g h rfl rfl (gT rfl) rfl rfl (fun e0=>v_fieldAddr rfl U26 rfl Z9 rfl rfl) fun a h=>?_
 refine st_g h rfl rfl (gT rfl) rfl rfl (fun e0=>v_load1 (eg e0 rfl) A9 (H.hp.get 0 rfl) rfl) fun a h=>?_
 obtain ⟨z7,e7,hS⟩:=bv hS
 refine st_g h rfl rfl (gT rfl) rfl rfl (fun e0=>vB e7 (v_seq (eg e0 rfl) rfl)) fun a h=>?_
 refine sB h hS rfl (v_and rfl rfl) fun z8 e8 hS a h=>cps 1 h rfl fun a h=>cN k h [2] [_] fun h=>?_
 cases hS
 refine r1 hr h rfl rfl ⟨rfl,H.out⟩
 refine rg fun K k=>sB h hS rfl (v_eq rfl rfl) fun z9 e9 hS a h=>cps 1 h rfl fun a h=>cz k<|cI h hS rfl (fun ec10 hS=>?_) fun ec10 hS=>?_
 refine rg fun K k=>s1 h rfl (v_fieldAddr rfl U26 rfl Z2 rfl rfl) fun a h=>s1 h rfl (l1 H 0 A2) fun a h=>sB h hS rfl (v_ne rfl rfl) fun z11 e11 hS a h=>cps 1 h rfl fun a h=>st_g h rfl rfl (gT rfl) rfl rfl (fun e0=>v_fieldAddr rfl U26 rfl Z9 rfl rfl) fun a h=>?_
 refine st_g h rfl rfl (gT rfl) rfl rfl (fun e0=>v_load1 (eg e0 rfl) A9 (H.hp.get 0 rfl) rfl) fun a h=>?_
 obtain ⟨z12,e12,hS⟩:=bv hS
 refine st_g h rfl rfl (gT rfl) rfl rfl (fun e0=>vB e12 (v_seq (eg e0 rfl) rfl)) fun a h=>?_
 refine sB h hS rfl (v_and rfl rfl) fun z13 e13 hS a h=>cps 1 h rfl fun a h=>cN k h [2] [_] fun h=>?_
 cases hS
 refine r1 hr h rfl rfl ⟨rfl,H.out⟩
 refine rg fun K k=>sB h hS rfl (v_eq rfl rfl) fun z14 e14 hS a h=>cps 1 h rfl fun a h=>cN k h [1,4,25] O3 fun h=>?_
 refine cI h hS rfl (fun ec15 hS=>?_) fun ec15 hS=>?_
 refine rg fun K k=>s1 h rfl (v_fieldAddr rfl U26 rfl Z2 rfl rfl) fun a h=>s1 h rfl (l1 H 0 A2) fun a h=>sB h hS rfl (v_eq rfl rfl) fun z16 e16 hS a h=>cps 1 h rfl fun a h=>st_g h rfl rfl (gT rfl) rfl rfl (fun e0=>v_fieldAddr rfl U26 rfl Z9 rfl rfl) fun a h=>?_
 refine st_g h rfl rfl (gT rfl) rfl rfl (fun e0=>v_load1 (eg e0 rfl) A9 (H.hp.get 0 rfl) rfl) fun a h=>?_
 refine st_g h rfl rfl (gT rfl) rfl rfl (fun e0=>v_slen U9 (eg e0 rfl)) fun a h=>?_
 obtain ⟨z17,e17,hS⟩:=bv hS
 refine st_g h rfl rfl (gT rfl) rfl rfl (fun e0=>vB e17 (v_le (eg e0 rfl) rfl)) fun a h=>?_
 refine sB h hS rfl (v_and rfl rfl) fun z18 e18 hS a h=>cps 1 h rfl fun a h=>cN k h [2] [_] fun h=>?_
 cases hS
 refine r1 hr h rfl rfl ⟨rfl,H.out⟩
 refine rg fun K k=>sB h hS rfl (v_eq rfl rfl) fun z19 e19 hS a h=>cps 1 h rfl fun a h=>cz k<|cI h hS rfl (fun ec20 hS=>?_) fun ec20 hS=>?_
 refine rg fun K k=>s1 h rfl (v_fieldAddr rfl U26 rfl Z2 rfl rfl) fun a h=>s1 h rfl (l1 H 0 A2) fun a h=>sI h hS rfl (v_bits_and rfl rfl) fun z21 e21 hS a h=>s1 h rfl (v_fieldAddr rfl U26 rfl Z2 rfl rfl) fun a h=>s1 h rfl (l1 H 0 A2) fun a h=>sB h hS rfl (v_eq rfl rfl) fun z22 e22 hS a h=>cps 1 h rfl fun a h=>st_g h rfl rfl (gT rfl) rfl rfl (fun e0=>v_fieldAddr rfl U26 rfl Z9 rfl rfl) fun a h=>?_
 refine st_g h rfl rfl (gT rfl) rfl rfl (fun e0=>v_load1 (eg e0 rfl) A9 (H.hp.get 0 rfl) rfl) fun a h=>?_
 obtain ⟨z23,e23,hS⟩:=bv hS
 refine st_g h rfl rfl (gT rfl) rfl rfl (fun e0=>vB e23 (v_seq (eg e0 rfl) rfl)) fun a h=>?_
 refine sB h hS rfl (v_and rfl rfl) fun z24 e24 hS a h=>cps 1 h rfl fun a h=>cN k h [2] [_] fun h=>?_
 cases hS
 refine r1 hr h rfl rfl ⟨rfl,H.out⟩
 refine rg fun K k=>sB h hS rfl (v_eq rfl rfl) fun z25 e25 hS a h=>cps 1 h rfl fun a h=>cN k h [1,49] O2 fun h=>?_
 refine cI h hS rfl (fun ec26 hS=>?_) fun ec26 hS=>?_
 refine rg fun K k=>s1 h rfl (v_fieldAddr rfl U26 rfl Z2 rfl rfl) fun a h=>s1 h rfl (l1 H 0 A2) fun a h=>sB h hS rfl (v_ge rfl rfl) fun z27 e27 hS a h=>cps 1 h rfl fun a h=>st_g h rfl rfl (gT rfl) rfl rfl (fun e0=>v_fieldAddr rfl U26 rfl Z2 rfl rfl) fun a h=>?_
 refine st_g h rfl rfl (gT rfl) rfl rfl (fun e0=>v_load1 (eg e0 rfl) A2 (H.hp.get 0 rfl) rfl) fun a h=>?_
 obtain ⟨z28,e28,hS⟩:=bv hS
 refine st_g h rfl rfl (gT rfl) rfl rfl (fun e0=>vB e28 (v_le (eg e0 rfl) rfl)) fun a h=>?_
 refine sB h hS rfl (v_and rfl rfl) fun z29 e29 hS a h=>cps 1 h rfl fun a h=>st_g h rfl rfl (gT rfl) rfl rfl (fun e0=>v_fieldAddr rfl U26 rfl Z9 rfl rfl) fun a h=>?_
 refine st_g h rfl rfl (gT rfl) rfl rfl (fun e0=>v_load1 (eg e0 rfl) A9 (H.hp.get 0 rfl) rfl) fun a h=>?_
 obtain ⟨z30,e30,hS⟩:=bv hS
 refine st_g h rfl rfl (gT rfl) rfl rfl (fun e0=>vB e30 (v_seq (eg e0 rfl) rfl)) fun a h=>?_
 refine sB h hS rfl (v_and rfl rfl) fun z31 e31 hS a h=>cps 1 h rfl fun a h=>cN k h [2] [_] fun h=>?_
 cases hS
 refine r1 hr h rfl rfl ⟨rfl,H.out⟩
 refine c_skip<|rg fun K k=>cps 1 h rfl fun a h=>cz k ?_
 cases hS
 refine r1 hr h rfl rfl ⟨rfl,H.out⟩
theorem value_like_ok {x0:V} {x1:V} {res:V} {w0:World} (hS:value_like x0 x1=some res):Calls Tryz.prog 160 [(vA x0),(vA x1)].toArray w0 (Ret fun v w=>v=.agg #[.int .i64 res.k,.int .i64 res.n,S res.s]∧Ext w0 w):=by
 refine en func160 [0,1] O2 fun Q a Zi Z hzs H h hr=>?_
 clear hzs
 unfold value_like at hS
 refine rg fun K k=>z_box h H rfl O3 rfl rfl fun a p1 w X H h=>?_
 have H:HZ w0 _ _ [_] _:=H
 refine z_box h H rfl O3 rfl rfl fun a p2 w X H h=>?_
 have H:HZ w0 _ _ O2 _:=H
 refine zA h H V26 O3 (fun x=>[_,_,x]) fun a p3 w X H h=>?_
 refine cz k<|sq<|rg fun K k=>s1 h rfl (v_fieldAddr rfl U26 rfl Z3 rfl rfl) fun a h=>s1 h rfl (l1 H 0 A3) fun a h=>sB h hS rfl (v_ne rfl rfl) fun z5 e5 hS a h=>cN k h [2,3,4,7] O4 fun h=>?_
 refine cI h hS rfl (fun ec6 hS=>?_) fun ec6 hS=>?_
 refine rg fun K k=>s1 h rfl (lA H 0 A26 Z26 O3) fun a h=>zS h H 2 Z26 O3 O3 O3 fun w H=>?_
 refine cN k h [4] [_] fun h=>?_
 cases hS
 refine r1 hr h rfl (rvA H 2 A26 Z26 O3) ⟨rfl,H.out⟩
 refine c_skip<|sq<|rg fun K k=>s1 h rfl (v_fieldAddr rfl U26 rfl Z3 rfl rfl) fun a h=>s1 h rfl (l1 H 1 A3) fun a h=>cN k h [4,10] O2 fun h=>?_
 refine lb<|rg fun K k=>sB h hS rfl (v_eq rfl rfl) fun z9 e9 hS a h=>cps 1 h rfl fun a h=>cz k<|cI h hS rfl (fun ec10 hS=>?_) fun ec10 hS=>?_
 refine rg fun K k=>sC h H hS rfl (fun y11 f11=>dC call28 (value_Text_ok f11 :)) fun y11 hS w X H a h=>?_
 refine zS h H 2 Z26 O3 O3 O3 fun w H=>?_
 refine cN k h [4] [_] fun h=>?_
 cases hS
 refine r1 hr h rfl (rvA H 2 A26 Z26 O3) ⟨rfl,H.out⟩
 refine rg fun K k=>sB h hS rfl (v_eq rfl rfl) fun z12 e12 hS a h=>cps 1 h rfl fun a h=>cN k h [4,14] O2 fun h=>?_
 refine cI h hS rfl (fun ec13 hS=>?_) fun ec13 hS=>?_
 refine rg fun K k=>sC h H hS rfl (fun y14 f14=>dC call24 (value_Bool_ok f14 :)) fun y14 hS w X H a h=>?_
 refine zS h H 2 Z26 O3 O3 O3 fun w H=>?_
 refine cz k ?_
 cases hS
 refine r1 hr h rfl (rvA H 2 A26 Z26 O3) ⟨rfl,H.out⟩
 refine c_skip<|rg fun K k=>sC h H hS rfl (fun y15 f15=>dC call14 (value_Num_ok f15 :)) fun y15 hS w X H a h=>?_
 refine zS h H 2 Z26 O3 O3 O3 fun w H=>?_
 refine cz k ?_
 cases hS
 refine r1 hr h rfl (rvA H 2 A26 Z26 O3) ⟨rfl,H.out⟩
theorem value_rank_ok {x0:V} {res:Int} {w0:World} (hS:value_rank x0=some res):Calls Tryz.prog 161 [(vA x0)].toArray w0 (Ret fun v w=>v=.int .i64 res∧Ext w0 w):=by
 refine en func161 [0] [_] fun Q a Zi Z hzs H h hr=>?_
 clear hzs
 unfold value_rank at hS
 refine rg fun K k=>z_box h H rfl O3 rfl rfl fun a p1 w X H h=>?_
 have H:HZ w0 _ _ [_] _:=H
 refine cps 1 h rfl fun a h=>cz k<|rg fun K k=>s1 h rfl (v_fieldAddr rfl U26 rfl Z3 rfl rfl) fun a h=>s1 h rfl (l1 H 0 A3) fun a h=>cps 1 h rfl fun a h=>cN k h [2] [_] fun h=>?_
 cases hS
 refine r1 hr h rfl rfl ⟨rfl,H.out⟩
theorem num_fits_ok {x0:Int} {res:Bool} {w0:World} (hS:num_fits x0=some res):Calls Tryz.prog 84 [.int .i64 x0].toArray w0 (Ret fun v w=>v=.bool res∧Ext w0 w):=by
 refine en func84 [0] [_] fun Q a Zi Z hzs H h hr=>?_
 clear hzs
 unfold num_fits at hS
 refine rg fun K k=>cps 1 h rfl fun a h=>cz k<|rg fun K k=>cps 1 h rfl fun a h=>sB h hS rfl (v_ge rfl rfl) fun z1 e1 hS a h=>cps 1 h rfl fun a h=>cz k ?_
 cases hS
 refine r1 hr h rfl rfl ⟨rfl,H.out⟩
theorem num_Add_ok {x0:Int} {x1:Int} {res:Int × Bool} {w0:World} (hS:num_Add x0 x1=some res):Calls Tryz.prog 57 [.int .i64 x0,.int .i64 x1].toArray w0 (Ret fun v w=>v=.tuple #[.int .i64 res.1,.bool res.2]∧Ext w0 w):=by
 refine en func57 [0,1] O2 fun Q a Zi Z hzs H h hr=>?_
 clear hzs
 unfold num_Add at hS
 refine rg fun K k=>cps 2 h rfl fun a h=>cz k<|rg fun K k=>cps 2 h rfl fun a h=>sI h hS rfl (v_addw rfl rfl) fun z1 e1 hS a h=>cps 1 h rfl fun a h=>cN k h [0,1,6] O3 fun h=>?_
 refine rg fun K k=>cps 2 h rfl fun a h=>sC h H hS rfl (fun y2 f2=>dC call84 (num_fits_ok f2 :)) fun y2 hS w X H a h=>?_
 refine cps 1 h rfl fun a h=>st_g h rfl rfl (gT rfl) rfl rfl (fun e0=>v_move rfl) fun a h=>?_
 refine st_g h rfl rfl (gT rfl) rfl rfl (fun e0=>v_move rfl) fun a h=>?_
 obtain ⟨z3,e3,hS⟩:=bv hS
 refine st_g h rfl rfl (gT rfl) rfl rfl (fun e0=>vB e3 (v_gt (eg e0 rfl) (eg e0 rfl))) fun a h=>?_
 refine st_g h rfl rfl (gT rfl) rfl rfl (fun e0=>v_move rfl) fun a h=>?_
 obtain ⟨z4,e4,hS⟩:=bv hS
 refine st_g h rfl rfl (gT rfl) rfl rfl (fun e0=>vB e4 (v_gt (eg e0 rfl) rfl)) fun a h=>?_
 obtain ⟨z5,e5,hS⟩:=bv hS
 refine st_g h rfl rfl (gT rfl) rfl rfl (fun e0=>vB e5 (v_beq U4 (eg e0 rfl) (eg e0 rfl))) fun a h=>?_
 refine sB h hS rfl (v_and rfl rfl) fun z6 e6 hS a h=>cps 2 h rfl fun a h=>cN k h [4,5] O2 fun h=>?_
 cases hS
 refine r2 hr h rfl rfl rfl ⟨rfl,H.out⟩
theorem num_Sub_ok {x0:Int} {x1:Int} {res:Int × Bool} {w0:World} (hS:num_Sub x0 x1=some res):Calls Tryz.prog 120 [.int .i64 x0,.int .i64 x1].toArray w0 (Ret fun v w=>v=.tuple #[.int .i64 res.1,.bool res.2]∧Ext w0 w):=by
 refine en func120 [0,1] O2 fun Q a Zi Z hzs H h hr=>?_
 clear hzs
 unfold num_Sub at hS
 refine rg fun K k=>cps 2 h rfl fun a h=>cz k<|rg fun K k=>cps 2 h rfl fun a h=>sI h hS rfl (v_negw rfl) fun z1 e1 hS a h=>sC h H hS rfl (fun y2 f2=>dC call57 (num_Add_ok f2 :)) fun y2 hS w X H a h=>?_
 refine cps 4 h rfl fun a h=>cN k h [4,5] O2 fun h=>?_
 cases hS
 refine r2 hr h rfl rfl rfl ⟨rfl,H.out⟩
theorem num_abs_ok {x0:Int} {res:Int} {w0:World} (hS:num_abs x0=some res):Calls Tryz.prog 82 [.int .i64 x0].toArray w0 (Ret fun v w=>v=.int .u64 res∧Ext w0 w):=by
 refine en func82 [0] [_] fun Q a Zi Z hzs H h hr=>?_
 clear hzs
 unfold num_abs at hS
 refine rg fun K k=>cps 1 h rfl fun a h=>cz k<|sq<|rg fun K k=>cps 1 h rfl fun a h=>sB h hS rfl (v_lt rfl rfl) fun z2 e2 hS a h=>cz k<|cI h hS rfl (fun ec3 hS=>?_) fun ec3 hS=>?_
 refine rg fun K k=>cps 1 h rfl fun a h=>sI h hS rfl (v_convInt (by rw [U2];rfl) underlying140 rfl rfl) fun z4 e4 hS a h=>sI h hS rfl (v_negw rfl) fun z5 e5 hS a h=>cps 1 h rfl fun a h=>cN k h [2] [_] fun h=>?_
 cases hS
 refine r1 hr h rfl rfl ⟨rfl,H.out⟩
 refine c_skip<|rg fun K k=>cps 1 h rfl fun a h=>sI h hS rfl (v_convInt (by rw [U2];rfl) underlying140 rfl rfl) fun z6 e6 hS a h=>cps 1 h rfl fun a h=>cN k h [2] [_] fun h=>?_
 cases hS
 refine r1 hr h rfl rfl ⟨rfl,H.out⟩
theorem num_signed_ok {x0:Int} {x1:Bool} {res:Int × Bool} {w0:World} (hS:num_signed x0 x1=some res):Calls Tryz.prog 83 [.int .u64 x0,.bool x1].toArray w0 (Ret fun v w=>v=.tuple #[.int .i64 res.1,.bool res.2]∧Ext w0 w):=by
 refine en func83 [0,1] O2 fun Q a Zi Z hzs H h hr=>?_
 clear hzs
 unfold num_signed at hS
 refine rg fun K k=>cps 2 h rfl fun a h=>cz k<|sq<|rg fun K k=>cps 1 h rfl fun a h=>sB h hS rfl (v_gt rfl rfl) fun z2 e2 hS a h=>cz k<|cI h hS rfl (fun ec3 hS=>?_) fun ec3 hS=>?_
 refine rg fun K k=>cps 2 h rfl fun a h=>cN k h [4,5] O2 fun h=>?_
 cases hS
 refine r2 hr h rfl rfl rfl ⟨rfl,H.out⟩
 refine c_skip<|cO h [0,1] O2 fun h=>?_
 refine sq<|rg fun K k=>cps 1 h rfl fun a h=>cz k<|cI h hS rfl (fun ec5 hS=>?_) fun ec5 hS=>?_
 refine rg fun K k=>cps 1 h rfl fun a h=>sI h hS rfl (v_convInt (by rw [underlying140];rfl) U2 rfl rfl) fun z6 e6 hS a h=>sI h hS rfl (v_negw rfl) fun z7 e7 hS a h=>cps 2 h rfl fun a h=>cN k h [4,5] O2 fun h=>?_
 cases hS
 refine r2 hr h rfl rfl rfl ⟨rfl,H.out⟩
 refine c_skip<|rg fun K k=>cps 1 h rfl fun a h=>sI h hS rfl (v_convInt (by rw [underlying140];rfl) U2 rfl rfl) fun z8 e8 hS a h=>cps 2 h rfl fun a h=>cN k h [4,5] O2 fun h=>?_
 cases hS
 refine r2 hr h rfl rfl rfl ⟨rfl,H.out⟩
end Go.Proofs.YtcecjdnkcbfhlaaGreatDoor
