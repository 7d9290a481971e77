/- Joined texts. -/
import Derived.Test.YtcecjdnkcbfhlaaGreatDoorES0
import Derived.Test.YtcecjdnkcbfhlaaGreatDoorEWkA
set_option linter.unusedSimpArgs false
set_option linter.unusedVariables false
set_option linter.unusedSectionVars false
namespace Go.Proofs.YtcecjdnkcbfhlaaGreatDoor
open Go.Stp Go.RowKit Go.ValP Go.Sp _root_.Go.Proofs.Tryz
set_option maxRecDepth 100000
theorem value_ErrorName_ok {x0:Int} {res:(List UInt8)} {w0:World} (hS:value_ErrorName x0=some res) (hG:GW w0):Calls Tryz.prog 140 [.int .i64 x0].toArray w0 (Ret fun v w=>v=S res∧Ext w0 w):=by
 refine en func140 [0] [_] fun Q a Zi Z hzs H h hr=>?_
 clear hzs
 unfold value_ErrorName at hS
 refine rg fun K k=>cps 1 h rfl fun a h=>cz k<|rg fun K k=>?_
 obtain ⟨c2,hS⟩:=ck hS
 obtain ⟨z3,e3,hS⟩:=bv hS
 refine z_callR (data:=z3) h H rfl rfl rfl ((by rw [e3];exact dC call64 (lib_fields c2 (hG.ext H.out)))) fun v4_4 Z w hsub X H r4_4 a h=>?_
 refine cps 1 h rfl fun a h=>cz k<|sq<|rg fun K k=>cps 1 h rfl fun a h=>sB h hS rfl (v_lt rfl rfl) fun z6 e6 hS a h=>cps 1 h rfl fun a h=>st_g h rfl rfl (gF rfl) rfl rfl (fun e0=>v_move rfl) fun a h=>?_
 refine st_g h rfl rfl (gF rfl) rfl rfl (fun e0=>v_move rfl) fun a h=>?_
 refine st_g h rfl rfl (gF rfl) rfl rfl (fun e0=>v_len U116 (eg e0 rfl) (r4_4.at H.zin)) fun a h=>?_
 obtain ⟨z7,e7,hS⟩:=bv hS
 refine st_g h rfl rfl (gF rfl) rfl rfl (fun e0=>vB e7 (v_gt (eg e0 rfl) (eg e0 rfl))) fun a h=>?_
 refine sB h hS rfl (v_or rfl rfl) fun z8 e8 hS a h=>cN k h [0,3,12] O3 fun h=>?_
 refine cI h hS rfl (fun ec9 hS=>?_) fun ec9 hS=>?_
 refine rg fun K k=>cps 1 h rfl fun a h=>cz k ?_
 cases hS
 refine r1 hr h rfl rfl ⟨rfl,H.out⟩
 refine c_skip<|rg fun K k=>cps 2 h rfl fun a h=>sI h hS rfl (v_subw rfl rfl) fun z10 e10 hS a h=>?_
 obtain ⟨c11,hS⟩:=ck hS
 obtain ⟨z12,e12,hS⟩:=bv hS
 refine st_idx h U116 Z9 rfl rfl (r4_4.at H.zin) (fun _=>rfl) z12 c11.1 (by rw [e12];exact gel_some c11) rfl fun a v16 A16 h=>?_
 refine s1 h rfl (v_loadAt1 rfl A16 A9 rfl) fun a h=>cps 1 h rfl fun a h=>cN k h [2] [_] fun h=>?_
 cases hS
 refine r1 hr h rfl rfl ⟨rfl,H.out⟩
theorem num_Parse_ok {x0:List UInt8} {res:Int × Bool} {w0:World} (hS:num_Parse x0=some res):Calls Tryz.prog 159 [S x0].toArray w0 (Ret fun v w=>v=.tuple #[.int .i64 res.1,.bool res.2]∧Ext w0 w):=by
 refine en func159 [0] [_] fun Q a Zi Z hzs H h hr=>?_
 clear hzs
 unfold num_Parse at hS
 refine rg fun K k=>cps 2 h rfl fun a h=>cz k<|rg fun K k=>cps 3 h rfl fun a h=>cz k ?_
 obtain ⟨J2,eJ2,hS⟩:=bv hS
 refine sqJ (fun a w=>∃ (Z:FZ) (s2:Int × Int × Int),J2 s2=some res∧Fr 87 [(4,.int .u64 s2.1),(5,.int .i64 s2.2.1),(6,.int .i64 s2.2.2)] a∧HZ w0 Zi Z [] w) ?_ ?_
 rintro a w ⟨Z,s2,hS,h,H⟩
 subst eJ2
 obtain ⟨J4,eJ4,hS⟩:=bv hS
 refine sqJ (fun a w=>∃ (Z:FZ) (s4:Int),J4 s4=some res∧Fr 87 [(4,.int .u64 s4),(5,.int .i64 s2.2.1),(6,.int .i64 s2.2.2)] a∧HZ w0 Zi Z [] w) ?_ ?_
 rintro a w ⟨Z,s4,hS,h,H⟩
 subst eJ4
 refine sq<|rg fun K k=>cps 1 h rfl fun a h=>sB h hS rfl (v_eq rfl rfl) fun z6 e6 hS a h=>cps 1 h rfl fun a h=>st_g h rfl rfl (gF rfl) rfl rfl (fun e0=>v_move rfl) fun a h=>?_
 obtain ⟨z7,e7,hS⟩:=bv hS
 refine st_g h rfl rfl (gF rfl) rfl rfl (fun e0=>vB e7 (v_eq (eg e0 rfl) rfl)) fun a h=>?_
 refine sB h hS rfl (v_or rfl rfl) fun z8 e8 hS a h=>cN k h [4,82] O2 fun h=>?_
 refine cI h hS rfl (fun ec9 hS=>?_) fun ec9 hS=>?_
 refine rg fun K k=>cps 2 h rfl fun a h=>cz k ?_
 cases hS
 refine r2 hr h rfl rfl rfl ⟨rfl,H.out⟩
 refine c_skip<|rg fun K k=>cps 1 h rfl fun a h=>sC h H hS rfl (fun y10 f10=>dC call83 (num_signed_ok f10 :)) fun y10 hS w X H a h=>?_
 refine cps 4 h rfl fun a h=>cN k h [2,3] O2 fun h=>?_
 cases hS
 refine r2 hr h rfl rfl rfl ⟨rfl,H.out⟩
 refine rg fun K k=>cps 1 h rfl fun a h=>sI h hS rfl (v_max U3 rfl rfl) fun z11 e11 hS a h=>cps 1 h rfl fun a h=>cz k<|lb ?_
 obtain ⟨B13,eB13,hS⟩:=bv hS
 refine lpJ (fun mu_ a w=>∃ (Z:FZ) (s13:Int × Int),loopF B13 mu_ s13=some res∧Fr 87 [(4,.int .u64 s13.1),(5,.int .i64 s2.2.1),(6,.int .i64 s2.2.2),(12,.int .i64 s13.2)] a∧HZ w0 Zi Z [] w) KK ⟨_,_,hS,h.to,H⟩ ?_
 rintro mu_ a w ⟨Z,s13,hS,h,H⟩
 obtain ⟨mu_,rfl,n13,en13,hS⟩:=lpX eB13 hS
 refine sq<|rg fun K k=>cps 1 h rfl fun a h=>sB h hS rfl (v_lt rfl rfl) fun z16 e16 hS a h=>cz k<|cI h hS rfl (fun ec17 hS=>?_) fun ec17 hS=>?_
 refine c_skip<|sb ?_
 refine rg fun K k=>cps 1 h rfl fun a h=>?_
 obtain ⟨c20,hS⟩:=ck hS
 obtain ⟨z21,e21,hS⟩:=bv hS
 refine st2v (T:=Ext) (V:=.tuple #[.int .u64 z21.1,.int .u64 z21.2]) h rfl rfl rfl ((by rw [e21];exact dC call113 (lib_mul64 c20))) fun w X a h=>?_
 have H:=H.ext X
 refine cps 5 h rfl fun a h=>cN k h [5,6,12,13,14] O5 fun h=>?_
 refine sq<|rg fun K k=>cps 1 h rfl fun a h=>sB h hS rfl (v_gt rfl rfl) fun z23 e23 hS a h=>cz k<|cI h hS rfl (fun ec24 hS=>?_) fun ec24 hS=>?_
 refine rg fun K k=>cps 2 h rfl fun a h=>cN k h [2,3] O2 fun h=>?_
 cases hS
 refine r2 hr h rfl rfl rfl ⟨rfl,H.out⟩
 refine c_skip<|c_lregion<|cps 2 h rfl fun a h=>c_lnil<|cO h [4,5,6,12] O4 fun h=>?_
 refine c_lregion<|cps 1 h rfl fun a h=>sI h hS rfl (v_addw rfl rfl) fun z25 e25 hS a h=>cps 1 h rfl fun a h=>c_lnil ?_
 exact exL (ex2 ⟨lpN en13 hS,h.to,H⟩)
 exact c_exit (ex2 ⟨hS,h.to,H⟩)
 refine rg fun K k=>cps 1 h rfl fun a h=>z_range h H U9 rfl rfl fun a p26 w X H h=>?_
 have H:HZ w0 _ _ [_] _:=H
 refine cN k h [4,5,6,16] O4 fun h=>?_
 refine lb ?_
 obtain ⟨B28,eB28,hS⟩:=bv hS
 refine lpJ (fun mu_ a w=>∃ (Z:FZ) (s28:Int × Int × Int × Nat),loopF B28 mu_ s28=some res∧Fr 87 [(4,.int .u64 s28.1),(5,.int .i64 s28.2.1),(6,.int .i64 s28.2.2.1),(16,(pt p26))] a∧HZ w0 Zi Z [.blk p26 (.stringIter ⟨(x0:List UInt8).toArray⟩ (s28.2.2.2))] w) KK ⟨_,_,hS,h.to,H⟩ ?_
 rintro mu_ a w ⟨Z,s28,hS,h,H⟩
 obtain ⟨mu_,rfl,n28,en28,hS⟩:=lpX eB28 hS
 refine rg fun K k=>z_next h H 0 rfl rfl rfl (hl':=[_]) rfl fun a w H h=>?_
 refine sB h hS rfl (v_next0 rfl) fun z30 e30 hS a h=>cz k<|sq<|cI h hS rfl (fun ec32 hS=>?_) fun ec32 hS=>?_
 refine c_skip<|lb<|rg fun K k=>s1 h rfl (v_next2 (nlt e30 ec32) rfl) fun a h=>cps 1 h rfl fun a h=>cz k ?_
 obtain ⟨J35,eJ35,hS⟩:=bv hS
 refine sbJ (fun a w=>∃ (Z:FZ) (s35:Int),J35 s35=some res∧Fr 87 [(4,.int .u64 s28.1),(5,.int .i64 s35),(6,.int .i64 s28.2.2.1),(8,.int .i32 (rn x0 s28.2.2.2)),(16,(pt p26))] a∧HZ w0 Zi Z [.blk p26 (.stringIter ⟨(x0:List UInt8).toArray⟩ (nextP x0 s28.2.2.2))] w) ?_ ?_
 rintro a w ⟨Z,s35,hS,h,H⟩
 subst eJ35
 refine rg fun K k=>cps 1 h rfl fun a h=>?_
 obtain ⟨c37,hS⟩:=ck hS
 obtain ⟨z38,e38,hS⟩:=bv hS
 refine st2v (T:=Ext) (V:=.tuple #[.int .u64 z38.1,.int .u64 z38.2]) h rfl rfl rfl ((by rw [e38];exact dC call113 (lib_mul64 c37))) fun w X a h=>?_
 have H:=H.ext X
 refine cps 5 h rfl fun a h=>cN k h [5,6,8,9,10,16] O6 fun h=>?_
 refine rg fun K k=>cps 2 h rfl fun a h=>sI h hS rfl (v_subw rfl rfl) fun z39 e39 hS a h=>sI h hS rfl (v_convInt (by rw [underlying21];rfl) underlying140 rfl rfl) fun z40 e40 hS a h=>?_
 obtain ⟨c42,hS⟩:=ck hS
 obtain ⟨z43,e43,hS⟩:=bv hS
 refine s1 (V:=.tuple #[.int .u64 z43.1,.int .u64 z43.2]) h rfl (by rw [e43];exact v_add64 rfl rfl rfl c42) fun a h=>cps 5 h rfl fun a h=>cN k h [5,6,9,10,11,16] O6 fun h=>?_
 refine sq<|rg fun K k=>cps 2 h rfl fun a h=>sI h hS rfl (v_addw rfl rfl) fun z45 e45 hS a h=>sB h hS rfl (v_gt rfl rfl) fun z46 e46 hS a h=>cN k h [5,6,10,16,59] O5 fun h=>?_
 refine cI h hS rfl (fun ec47 hS=>?_) fun ec47 hS=>?_
 refine rg fun K k=>cps 2 h rfl fun a h=>cN k h [2,3] O2 fun h=>?_
 cases hS
 refine r2 hr h rfl rfl rfl ⟨rfl,H.out⟩
 refine c_skip<|rg fun K k=>cps 2 h rfl fun a h=>cz k<|c_lregion<|cps 1 h rfl fun a h=>sI h hS rfl (v_addw rfl rfl) fun z48 e48 hS a h=>cps 1 h rfl fun a h=>c_lnil ?_
 exact exL (ex2 ⟨lpN en28 hS,h.to,H⟩)
 refine rg fun K k=>cps 1 h rfl fun a h=>sB h hS rfl (v_eq rfl rfl) fun z49 e49 hS a h=>cps 1 h rfl fun a h=>st_g h rfl rfl (gT rfl) rfl rfl (fun e0=>v_move rfl) fun a h=>?_
 obtain ⟨z50,e50,hS⟩:=bv hS
 refine st_g h rfl rfl (gT rfl) rfl rfl (fun e0=>vB e50 (v_lt (eg e0 rfl) rfl)) fun a h=>?_
 refine sB h hS rfl (v_and rfl rfl) fun z51 e51 hS a h=>cps 1 h rfl fun a h=>cN k h [4,5,6,8,16,20] O6 fun h=>?_
 refine cI h hS rfl (fun ec52 hS=>?_) fun ec52 hS=>?_
 refine rg fun K k=>cps 1 h rfl fun a h=>cz k ?_
 exact c_exit (exL (ex2 ⟨lpN en28 hS,h.to,H⟩))
 refine rg fun K k=>cps 1 h rfl fun a h=>sB h hS rfl (v_lt rfl rfl) fun z53 e53 hS a h=>cps 1 h rfl fun a h=>st_g h rfl rfl (gF rfl) rfl rfl (fun e0=>v_move rfl) fun a h=>?_
 obtain ⟨z54,e54,hS⟩:=bv hS
 refine st_g h rfl rfl (gF rfl) rfl rfl (fun e0=>vB e54 (v_gt (eg e0 rfl) rfl)) fun a h=>?_
 refine sB h hS rfl (v_or rfl rfl) fun z55 e55 hS a h=>cps 1 h rfl fun a h=>st_g h rfl rfl (gF rfl) rfl rfl (fun e0=>v_move rfl) fun a h=>?_
 obtain ⟨z56,e56,hS⟩:=bv hS
 refine st_g h rfl rfl (gF rfl) rfl rfl (fun e0=>vB e56 (v_eq (eg e0 rfl) rfl)) fun a h=>?_
 refine sB h hS rfl (v_or rfl rfl) fun z57 e57 hS a h=>cps 1 h rfl fun a h=>cN k h [4,5,6,8,16,27] O6 fun h=>?_
 refine cI h hS rfl (fun ec58 hS=>?_) fun ec58 hS=>?_
 refine rg fun K k=>cps 2 h rfl fun a h=>cN k h [2,3] O2 fun h=>?_
 cases hS
 refine r2 hr h rfl rfl rfl ⟨rfl,H.out⟩
 refine rg fun K k=>cps 1 h rfl fun a h=>sB h hS rfl (v_ge rfl rfl) fun z59 e59 hS a h=>cps 1 h rfl fun a h=>cz k<|cI h hS rfl (fun ec60 hS=>?_) fun ec60 hS=>?_
 refine c_lregion<|cps 1 h rfl fun a h=>sI h hS rfl (v_addw rfl rfl) fun z61 e61 hS a h=>cps 1 h rfl fun a h=>c_lnil ?_
 exact ex2 ⟨hS,h.to,H⟩
 exact c_skip (ex2 ⟨hS,h.to,H⟩)
 exact c_exit (ex2 ⟨hS,h.to,(H.keepN 0 rfl)⟩)
theorem value_ToNum_ok {x0:V} {res:V} {w0:World} (hS:value_ToNum x0=some res):Calls Tryz.prog 115 [(vA x0)].toArray w0 (Ret fun v w=>v=.agg #[.int .i64 res.k,.int .i64 res.n,S res.s]∧Ext w0 w):=by
 refine en func115 [0] [_] fun Q a Zi Z hzs H h hr=>?_
 clear hzs
 unfold value_ToNum at hS
 refine rg fun K k=>z_box h H rfl O3 rfl rfl fun a p1 w X H h=>?_
 have H:HZ w0 _ _ [_] _:=H
 refine zA h H V26 O3 (fun x=>[_,x]) fun a p2 w X H h=>?_
 refine cz k<|sq<|rg fun K k=>s1 h rfl (v_fieldAddr rfl U26 rfl Z3 rfl rfl) fun a h=>s1 h rfl (l1 H 0 A3) fun a h=>cz k<|lb ?_
 obtain ⟨J6,eJ6,hS⟩:=bv hS
 refine sqJ (fun a w=>∃ (Z:FZ) (s6:Bool),J6 s6=some res∧Fr 41 [(1,(pt p1)),(2,(pt p2)),(8,.int .i64 x0.k),(9,.bool s6)] a∧HZ w0 Zi Z [.blk p1 (Cel (vL x0) 26),.blk p2 (Cel [.int .i64 0,.int .i64 0,S []] 26)] w) ?_ ?_
 rintro a w ⟨Z,s6,hS,h,H⟩
 subst eJ6
 refine cI h hS rfl (fun ec7 hS=>?_) fun ec7 hS=>?_
 refine rg fun K k=>s1 h rfl (lA H 0 A26 Z26 O3) fun a h=>zS h H 1 Z26 O3 O3 O2 fun w H=>?_
 refine cN k h [2] [_] fun h=>?_
 cases hS
 refine r1 hr h rfl (rvA H 1 A26 Z26 O3) ⟨rfl,H.out⟩
 refine rg fun K k=>sB h hS rfl (v_eq rfl rfl) fun z8 e8 hS a h=>cps 1 h rfl fun a h=>cz k<|cI h hS rfl (fun ec9 hS=>?_) fun ec9 hS=>?_
 refine rg fun K k=>sC h H hS rfl (fun y10 f10=>dC call14 (value_Num_ok f10 :)) fun y10 hS w X H a h=>?_
 refine zS h H 1 Z26 O3 O3 O2 fun w H=>?_
 refine cN k h [2] [_] fun h=>?_
 cases hS
 refine r1 hr h rfl (rvA H 1 A26 Z26 O3) ⟨rfl,H.out⟩
 refine rg fun K k=>sB h hS rfl (v_eq rfl rfl) fun z11 e11 hS a h=>cps 1 h rfl fun a h=>cN k h [1,2,16] O3 fun h=>?_
 refine cI h hS rfl (fun ec12 hS=>?_) fun ec12 hS=>?_
 refine rg fun K k=>s1 h rfl (v_fieldAddr rfl U26 rfl Z2 rfl rfl) fun a h=>s1 h rfl (l1 H 0 A2) fun a h=>sI h hS rfl (v_mulw rfl rfl) fun z13 e13 hS a h=>sC h H hS rfl (fun y14 f14=>dC call14 (value_Num_ok f14 :)) fun y14 hS w X H a h=>?_
 refine zS h H 1 Z26 O3 O3 O2 fun w H=>?_
 refine cN k h [2] [_] fun h=>?_
 cases hS
 refine r1 hr h rfl (rvA H 1 A26 Z26 O3) ⟨rfl,H.out⟩
 refine c_skip<|rg fun K k=>s1 h rfl (v_fieldAddr rfl U26 rfl Z9 rfl rfl) fun a h=>s1 h rfl (l1 H 0 A9) fun a h=>?_
 obtain ⟨z16,e16,hS⟩:=bv hS
 refine st2v (T:=Ext) (V:=.tuple #[S z16.1,.bool z16.2]) h rfl rfl rfl ((by rw [e16];exact dC call158 (lib_cutPrefix))) fun w X a h=>?_
 have H:=H.ext X
 refine cps 5 h rfl fun a h=>cN k h [2,3,4] O3 fun h=>?_
 refine rg fun K k=>cps 1 h rfl fun a h=>sC h H hS rfl (fun y17 f17=>dC call159 (num_Parse_ok f17 :)) fun y17 hS w X H a h=>?_
 refine cps 5 h rfl fun a h=>cN k h [2,4,5,6] O4 fun h=>?_
 refine sq<|rg fun K k=>cps 1 h rfl fun a h=>sB h hS rfl (v_not rfl) fun z19 e19 hS a h=>cz k<|cI h hS rfl (fun ec20 hS=>?_) fun ec20 hS=>?_
 refine rg fun K k=>sC h H hS rfl (fun y21 f21=>dC call21 (value_Fail_ok f21 :)) fun y21 hS w X H a h=>?_
 refine zS h H 1 Z26 O3 O3 O2 fun w H=>?_
 refine cN k h [2] [_] fun h=>?_
 cases hS
 refine r1 hr h rfl (rvA H 1 A26 Z26 O3) ⟨rfl,H.out⟩
 refine c_skip ?_
 obtain ⟨J23,eJ23,hS⟩:=bv hS
 refine sqJ (fun a w=>∃ (Z:FZ) (s23:Int),J23 s23=some res∧Fr 41 [(2,(pt p2)),(5,.int .i64 s23)] a∧HZ w0 Zi Z [.blk p1 (Cel (vL x0) 26),.blk p2 (Cel [.int .i64 0,.int .i64 0,S []] 26)] w) ?_ ?_
 rintro a w ⟨Z,s23,hS,h,H⟩
 subst eJ23
 refine rg fun K k=>cps 1 h rfl fun a h=>sC h H hS rfl (fun y24 f24=>dC call14 (value_Num_ok f24 :)) fun y24 hS w X H a h=>?_
 refine zS h H 1 Z26 O3 O3 O2 fun w H=>?_
 refine cz k ?_
 cases hS
 refine r1 hr h rfl (rvA H 1 A26 Z26 O3) ⟨rfl,H.out⟩
 refine rg fun K k=>cps 1 h rfl fun a h=>cN k h [2,5,36] O3 fun h=>?_
 refine cI h hS rfl (fun ec25 hS=>?_) fun ec25 hS=>?_
 refine c_lregion<|cps 1 h rfl fun a h=>sI h hS rfl (v_negw rfl) fun z26 e26 hS a h=>cps 1 h rfl fun a h=>c_lnil ?_
 exact ex2 ⟨hS,h.to,H⟩
 exact c_skip (ex2 ⟨hS,h.to,H⟩)
 refine rg fun K k=>sB h hS rfl (v_eq rfl rfl) fun z27 e27 hS a h=>cps 1 h rfl fun a h=>cz k<|cI h hS rfl (fun ec28 hS=>?_) fun ec28 hS=>?_
 exact c_skip (ex2 ⟨hS,h.to,H⟩)
 refine c_lregion<|sB h hS rfl (v_eq rfl rfl) fun z29 e29 hS a h=>cps 1 h rfl fun a h=>c_lnil ?_
 exact ex2 ⟨hS,h.to,H⟩
theorem value_ToBool_ok {x0:V} {res:V} {w0:World} (hS:value_ToBool x0=some res):Calls Tryz.prog 31 [(vA x0)].toArray w0 (Ret fun v w=>v=.agg #[.int .i64 res.k,.int .i64 res.n,S res.s]∧Ext w0 w):=by
 refine en func31 [0] [_] fun Q a Zi Z hzs H h hr=>?_
 clear hzs
 unfold value_ToBool at hS
 refine rg fun K k=>z_box h H rfl O3 rfl rfl fun a p1 w X H h=>?_
 have H:HZ w0 _ _ [_] _:=H
 refine zA h H V26 O3 (fun x=>[_,x]) fun a p2 w X H h=>?_
 refine cz k<|sq<|rg fun K k=>s1 h rfl (v_fieldAddr rfl U26 rfl Z3 rfl rfl) fun a h=>s1 h rfl (l1 H 0 A3) fun a h=>cz k<|lb ?_
 obtain ⟨J6,eJ6,hS⟩:=bv hS
 refine sqJ (fun a w=>∃ (Z:FZ) (s6:Bool),J6 s6=some res∧Fr 31 [(1,(pt p1)),(2,(pt p2)),(4,.int .i64 x0.k),(5,.bool s6)] a∧HZ w0 Zi Z [.blk p1 (Cel (vL x0) 26),.blk p2 (Cel [.int .i64 0,.int .i64 0,S []] 26)] w) ?_ ?_
 rintro a w ⟨Z,s6,hS,h,H⟩
 subst eJ6
 refine cI h hS rfl (fun ec7 hS=>?_) fun ec7 hS=>?_
 refine rg fun K k=>s1 h rfl (lA H 0 A26 Z26 O3) fun a h=>zS h H 1 Z26 O3 O3 O2 fun w H=>?_
 refine cN k h [2] [_] fun h=>?_
 cases hS
 refine r1 hr h rfl (rvA H 1 A26 Z26 O3) ⟨rfl,H.out⟩
 refine rg fun K k=>sB h hS rfl (v_eq rfl rfl) fun z8 e8 hS a h=>cps 1 h rfl fun a h=>cz k<|cI h hS rfl (fun ec9 hS=>?_) fun ec9 hS=>?_
 refine rg fun K k=>sC h H hS rfl (fun y10 f10=>dC call24 (value_Bool_ok f10 :)) fun y10 hS w X H a h=>?_
 refine zS h H 1 Z26 O3 O3 O2 fun w H=>?_
 refine cN k h [2] [_] fun h=>?_
 cases hS
 refine r1 hr h rfl (rvA H 1 A26 Z26 O3) ⟨rfl,H.out⟩
 refine rg fun K k=>sB h hS rfl (v_eq rfl rfl) fun z11 e11 hS a h=>cps 1 h rfl fun a h=>cN k h [1,2,12] O3 fun h=>?_
 refine cI h hS rfl (fun ec12 hS=>?_) fun ec12 hS=>?_
 refine rg fun K k=>s1 h rfl (v_fieldAddr rfl U26 rfl Z2 rfl rfl) fun a h=>s1 h rfl (l1 H 0 A2) fun a h=>sB h hS rfl (v_ne rfl rfl) fun z13 e13 hS a h=>sC h H hS rfl (fun y14 f14=>dC call24 (value_Bool_ok f14 :)) fun y14 hS w X H a h=>?_
 refine zS h H 1 Z26 O3 O3 O2 fun w H=>?_
 refine cN k h [2] [_] fun h=>?_
 cases hS
 refine r1 hr h rfl (rvA H 1 A26 Z26 O3) ⟨rfl,H.out⟩
 refine c_skip<|sq<|rg fun K k=>s1 h rfl (v_fieldAddr rfl U26 rfl Z9 rfl rfl) fun a h=>s1 h rfl (l1 H 0 A9) fun a h=>sB h hS rfl (v_seq rfl rfl) fun z16 e16 hS a h=>cps 1 h rfl fun a h=>st_g h rfl rfl (gF rfl) rfl rfl (fun e0=>v_fieldAddr rfl U26 rfl Z9 rfl rfl) fun a h=>?_
 refine st_g h rfl rfl (gF rfl) rfl rfl (fun e0=>v_load1 (eg e0 rfl) A9 (H.hp.get 0 rfl) rfl) fun a h=>?_
 obtain ⟨z17,e17,hS⟩:=bv hS
 refine st_g h rfl rfl (gF rfl) rfl rfl (fun e0=>vB e17 (v_seq (eg e0 rfl) rfl)) fun a h=>?_
 refine sB h hS rfl (v_or rfl rfl) fun z18 e18 hS a h=>cN k h [1,2,25] O3 fun h=>?_
 refine cI h hS rfl (fun ec19 hS=>?_) fun ec19 hS=>?_
 refine rg fun K k=>s1 h rfl (v_fieldAddr rfl U26 rfl Z9 rfl rfl) fun a h=>s1 h rfl (l1 H 0 A9) fun a h=>sB h hS rfl (v_seq rfl rfl) fun z20 e20 hS a h=>sC h H hS rfl (fun y21 f21=>dC call24 (value_Bool_ok f21 :)) fun y21 hS w X H a h=>?_
 refine zS h H 1 Z26 O3 O3 O2 fun w H=>?_
 refine cN k h [2] [_] fun h=>?_
 cases hS
 refine r1 hr h rfl (rvA H 1 A26 Z26 O3) ⟨rfl,H.out⟩
 refine c_skip<|rg fun K k=>sC h H hS rfl (fun y22 f22=>dC call21 (value_Fail_ok f22 :)) fun y22 hS w X H a h=>?_
 refine zS h H 1 Z26 O3 O3 O2 fun w H=>?_
 refine cz k ?_
 cases hS
 refine r1 hr h rfl (rvA H 1 A26 Z26 O3) ⟨rfl,H.out⟩
 refine rg fun K k=>sB h hS rfl (v_eq rfl rfl) fun z23 e23 hS a h=>cps 1 h rfl fun a h=>cz k<|cI h hS rfl (fun ec24 hS=>?_) fun ec24 hS=>?_
 exact c_skip (ex2 ⟨hS,h.to,H⟩)
 refine c_lregion<|sB h hS rfl (v_eq rfl rfl) fun z25 e25 hS a h=>cps 1 h rfl fun a h=>c_lnil ?_
 exact ex2 ⟨hS,h.to,H⟩
end Go.Proofs.YtcecjdnkcbfhlaaGreatDoor
