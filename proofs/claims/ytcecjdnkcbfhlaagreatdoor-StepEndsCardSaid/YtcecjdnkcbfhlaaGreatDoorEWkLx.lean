/- Joined texts. -/
import Derived.Test.YtcecjdnkcbfhlaaGreatDoorEU0
import Derived.Test.YtcecjdnkcbfhlaaGreatDoorEWkTr
set_option linter.unusedSimpArgs false
set_option linter.unusedVariables false
set_option linter.unusedSectionVars false
namespace Go.Proofs.YtcecjdnkcbfhlaaGreatDoor
open Go.Stp Go.RowKit Go.ValP Go.Sp _root_.Go.Proofs.Tryz
set_option maxRecDepth 100000
theorem lex_IsWord_ok {x0:Int} {res:Bool} {w0:World} (hS:lex_IsWord x0=some res):Calls Tryz.prog 142 [.int .u8 x0].toArray w0 (Ret fun v w=>v=.bool res∧Ext w0 w):=by
 refine en func142 [0] [_] fun Q a Zi Z hzs H h hr=>?_
 clear hzs
 unfold lex_IsWord at hS
 refine rg fun K k=>cps 1 h rfl fun a h=>cz k<|rg fun K k=>cps 1 h rfl fun a h=>sB h hS rfl (v_ge rfl rfl) fun z1 e1 hS a h=>cps 1 h rfl fun a h=>st_g h rfl rfl (gT rfl) rfl rfl (fun e0=>v_move rfl) fun a h=>?_
 obtain ⟨z2,e2,hS⟩:=bv hS
 refine st_g h rfl rfl (gT rfl) rfl rfl (fun e0=>vB e2 (v_le (eg e0 rfl) rfl)) fun a h=>?_
 refine sB h hS rfl (v_and rfl rfl) fun z3 e3 hS a h=>cps 1 h rfl fun a h=>st_g h rfl rfl (gF rfl) rfl rfl (fun e0=>v_move rfl) fun a h=>?_
 obtain ⟨z4,e4,hS⟩:=bv hS
 refine st_g h rfl rfl (gF rfl) rfl rfl (fun e0=>vB e4 (v_ge (eg e0 rfl) rfl)) fun a h=>?_
 refine st_g h rfl rfl (gF rfl) rfl rfl (fun e0=>v_move (eg e0 rfl)) fun a h=>?_
 refine st_g h rfl rfl (ggT rfl) rfl rfl (fun e0=>v_move rfl) fun a h=>?_
 obtain ⟨z5,e5,hS⟩:=bv hS
 refine st_g h rfl rfl (ggT rfl) rfl rfl (fun e0=>vB e5 (v_le (eg e0 rfl) rfl)) fun a h=>?_
 obtain ⟨z6,e6,hS⟩:=bv hS
 refine st_g h rfl rfl (gF rfl) rfl rfl (fun e0=>vB e6 (v_and (eg e0 rfl) (egn e0 rfl))) fun a h=>?_
 refine sB h hS rfl (v_or rfl rfl) fun z7 e7 hS a h=>cps 1 h rfl fun a h=>st_g h rfl rfl (gF rfl) rfl rfl (fun e0=>v_move rfl) fun a h=>?_
 obtain ⟨z8,e8,hS⟩:=bv hS
 refine st_g h rfl rfl (gF rfl) rfl rfl (fun e0=>vB e8 (v_eq (eg e0 rfl) rfl)) fun a h=>?_
 refine sB h hS rfl (v_or rfl rfl) fun z9 e9 hS a h=>cps 1 h rfl fun a h=>st_g h rfl rfl (gF rfl) rfl rfl (fun e0=>v_move rfl) fun a h=>?_
 obtain ⟨z10,e10,hS⟩:=bv hS
 refine st_g h rfl rfl (gF rfl) rfl rfl (fun e0=>vB e10 (v_eq (eg e0 rfl) rfl)) fun a h=>?_
 refine sB h hS rfl (v_or rfl rfl) fun z11 e11 hS a h=>cps 1 h rfl fun a h=>st_g h rfl rfl (gF rfl) rfl rfl (fun e0=>v_move rfl) fun a h=>?_
 obtain ⟨z12,e12,hS⟩:=bv hS
 refine st_g h rfl rfl (gF rfl) rfl rfl (fun e0=>vB e12 (v_eq (eg e0 rfl) rfl)) fun a h=>?_
 refine sB h hS rfl (v_or rfl rfl) fun z13 e13 hS a h=>cps 1 h rfl fun a h=>cN k h [2] [_] fun h=>?_
 cases hS
 refine r1 hr h rfl rfl ⟨rfl,H.out⟩
theorem lex_run_ok {x0:List UInt8} {x1:Int→Option (Bool)} {res:Int} {w0:World} (hS:lex_run x0 x1=some res) {Z:FZ} (hZ:Z.inn w0) {fi1:FuncId} {cp1:Array Value} (hf1:FnR Tryz.prog fi1 cp1 Z (fun c:Int=>[.int .u8 c]) (fun r:Bool=>.bool r) x1):Calls Tryz.prog 137 [S x0,.func (.func fi1) #[] cp1].toArray w0 (Ret fun v w=>v=.int .i64 res∧Ext w0 w):=by
 refine enS hZ func137 [0,1] O2 fun Q a Zi eZi H h hr=>?_
 try rw [←eZi] at hr
 rw [←eZi] at hf1
 clear eZi
 unfold lex_run at hS
 refine rg fun K k=>cps 1 h rfl fun a h=>cz k ?_
 obtain ⟨J2,eJ2,hS⟩:=bv hS
 refine sqJ (fun a w=>∃ (Z:FZ) (s2:Unit),J2 s2=some res∧Fr 21 [(0,S x0)] a∧HZ w0 Zi Z [] w) ?_ ?_
 rintro a w ⟨Z,s2,hS,h,H⟩
 subst eJ2
 refine rg fun K k=>cps 1 h rfl fun a h=>s1 h rfl (v_slen U9 rfl) fun a h=>cps 1 h rfl fun a h=>cz k ?_
 cases hS
 refine r1 hr h rfl rfl ⟨rfl,H.out⟩
 refine rg fun K k=>cps 1 h rfl fun a h=>s1 h rfl (v_slen U9 rfl) fun a h=>cps 1 h rfl fun a h=>cz k<|lb ?_
 obtain ⟨B4,eB4,hS⟩:=bv hS
 refine lpJ (fun mu_ a w=>∃ (Z:FZ) (s4:Int),loopF B4 mu_ s4=some res∧Fr 21 [(0,S x0),(1,.func (.func fi1) #[] cp1),(7,.int .i64 (x0.length:Int)),(8,.int .i64 s4)] a∧HZ w0 Zi Z [] w) KK ⟨_,_,hS,h.to,H⟩ ?_
 rintro mu_ a w ⟨Z,s4,hS,h,H⟩
 obtain ⟨mu_,rfl,n4,en4,hS⟩:=lpX eB4 hS
 refine rg fun K k=>sB h hS rfl (v_lt rfl rfl) fun z6 e6 hS a h=>cz k<|sq<|cI h hS rfl (fun ec8 hS=>?_) fun ec8 hS=>?_
 refine c_skip<|sb ?_
 refine rg fun K k=>cps 2 h rfl fun a h=>cz k<|rg fun K k=>cps 3 h rfl fun a h=>?_
 obtain ⟨c10,hS⟩:=ck hS
 refine sI h hS rfl (v_sidx U9 rfl rfl c10) fun z11 e11 hS a h=>sC h H hS rfl (fun y12 f12=>d_fn hf1 H.zini rfl (c:=z11) rfl f12) fun y12 hS w X H a h=>?_
 refine sB h hS rfl (v_not rfl) fun z13 e13 hS a h=>cN k h [0,1,5,7,8,16] O6 fun h=>?_
 refine cI h hS rfl (fun ec14 hS=>?_) fun ec14 hS=>?_
 refine rg fun K k=>cps 2 h rfl fun a h=>cN k h [4] [_] fun h=>?_
 cases hS
 refine r1 hr h rfl rfl ⟨rfl,H.out⟩
 refine c_skip<|c_lregion<|sI h hS rfl (v_addw rfl rfl) fun z15 e15 hS a h=>cps 1 h rfl fun a h=>c_lnil ?_
 exact exL (ex2 ⟨lpN en4 hS,h.to,H⟩)
 exact c_exit (exU1 ⟨hS,h.to,H⟩)
theorem lex_one_1_ok {x0:Int} {res:Bool} {w0:World} (hS:lex_one_1 x0=some res):Calls Tryz.prog 138 [.int .u8 x0].toArray w0 (Ret fun v w=>v=.bool res∧Ext w0 w):=by
 refine en func138 [0] [_] fun Q a Zi Z hzs H h hr=>?_
 clear hzs
 unfold lex_one_1 at hS
 refine rg fun K k=>cps 1 h rfl fun a h=>cz k<|rg fun K k=>cps 1 h rfl fun a h=>sB h hS rfl (v_ge rfl rfl) fun z1 e1 hS a h=>cps 1 h rfl fun a h=>st_g h rfl rfl (gT rfl) rfl rfl (fun e0=>v_move rfl) fun a h=>?_
 obtain ⟨z2,e2,hS⟩:=bv hS
 refine st_g h rfl rfl (gT rfl) rfl rfl (fun e0=>vB e2 (v_le (eg e0 rfl) rfl)) fun a h=>?_
 refine sB h hS rfl (v_and rfl rfl) fun z3 e3 hS a h=>cps 1 h rfl fun a h=>st_g h rfl rfl (gF rfl) rfl rfl (fun e0=>v_move rfl) fun a h=>?_
 obtain ⟨z4,e4,hS⟩:=bv hS
 refine st_g h rfl rfl (gF rfl) rfl rfl (fun e0=>vB e4 (v_eq (eg e0 rfl) rfl)) fun a h=>?_
 refine sB h hS rfl (v_or rfl rfl) fun z5 e5 hS a h=>cps 1 h rfl fun a h=>cN k h [2] [_] fun h=>?_
 cases hS
 refine r1 hr h rfl rfl ⟨rfl,H.out⟩
theorem lex_one_ok {x0:List UInt8} {res:Tk × Int} {w0:World} (hS:lex_one x0=some res) (hG:GW w0):Calls Tryz.prog 99 [S x0].toArray w0 (Ret fun v w=>v=.tuple #[.agg #[.int .i64 res.1.k,S res.1.s,.int .i64 res.1.a],.int .i64 res.2]∧Ext w0 w):=by
 refine en func99 [0] [_] fun Q a Zi Z hzs H h hr=>?_
 clear hzs
 unfold lex_one at hS
 refine rg fun K k=>zA h H zeroValue158 O3 (fun x=>[x]) fun a p1 w X H h=>?_
 refine cps 1 h rfl fun a h=>cz k<|rg fun K k=>cps 1 h rfl fun a h=>?_
 obtain ⟨c2,hS⟩:=ck hS
 refine sI h hS rfl (v_sidx U9 rfl rfl c2) fun z3 e3 hS a h=>cps 1 h rfl fun a h=>cz k<|sb ?_
 refine rg fun K k=>cps 1 h rfl fun a h=>sB h hS rfl (v_ge rfl rfl) fun z5 e5 hS a h=>cps 1 h rfl fun a h=>st_g h rfl rfl (gT rfl) rfl rfl (fun e0=>v_move rfl) fun a h=>?_
 obtain ⟨z6,e6,hS⟩:=bv hS
 refine st_g h rfl rfl (gT rfl) rfl rfl (fun e0=>vB e6 (v_le (eg e0 rfl) rfl)) fun a h=>?_
 refine sB h hS rfl (v_and rfl rfl) fun z7 e7 hS a h=>cps 1 h rfl fun a h=>st_g h rfl rfl (gF rfl) rfl rfl (fun e0=>v_move rfl) fun a h=>?_
 obtain ⟨z8,e8,hS⟩:=bv hS
 refine st_g h rfl rfl (gF rfl) rfl rfl (fun e0=>vB e8 (v_eq (eg e0 rfl) rfl)) fun a h=>?_
 refine sB h hS rfl (v_or rfl rfl) fun z9 e9 hS a h=>cps 1 h rfl fun a h=>cN k h [0,2,3,4,15] O5 fun h=>?_
 refine cI h hS rfl (fun ec10 hS=>?_) fun ec10 hS=>?_
 refine rg fun K k=>cps 1 h rfl fun a h=>sC h H hS rfl (fun y12 f12=>dC call137 (lex_run_ok f12 H.zin ⟨call138,fun c11 r_ w_ hi_ hg_=>lex_one_1_ok hg_ ⟩ :)) fun y12 hS w X H a h=>?_
 refine cps 1 h rfl fun a h=>cN k h [0,2,5] O3 fun h=>?_
 refine rg fun K k=>cps 2 h rfl fun a h=>?_
 obtain ⟨c13,hS⟩:=ck hS
 refine sS h hS rfl (v_scutHi U9 rfl rfl c13) fun z14 e14 hS a h=>s1 h rfl (v_build bld158 O2 O3 rfl rfl) fun a h=>cps 1 h rfl fun a h=>zS h H 0 Z158 O3 O3 [_] fun w H=>?_
 refine cps 1 h rfl fun a h=>cN k h [2,3] O2 fun h=>?_
 cases hS
 refine r2 hr h rfl (rvA H 0 isAgg158 Z158 O3) rfl ⟨rfl,H.out⟩
 refine rg fun K k=>cps 1 h rfl fun a h=>sB h hS rfl (v_eq rfl rfl) fun z15 e15 hS a h=>cps 1 h rfl fun a h=>cz k<|cI h hS rfl (fun ec16 hS=>?_) fun ec16 hS=>?_
 exact nomatch hS
 refine rg fun K k=>cps 1 h rfl fun a h=>sB h hS rfl (v_eq rfl rfl) fun z17 e17 hS a h=>cps 1 h rfl fun a h=>cN k h [0,2,3,4,44] O5 fun h=>?_
 refine cI h hS rfl (fun ec18 hS=>?_) fun ec18 hS=>?_
 exact nomatch hS
 refine rg fun K k=>cps 1 h rfl fun a h=>sC h H hS rfl (fun y19 f19=>dC call142 (lex_IsWord_ok f19 :)) fun y19 hS w X H a h=>?_
 refine cps 1 h rfl fun a h=>st_g h rfl rfl (gT rfl) rfl rfl (fun e0=>v_move rfl) fun a h=>?_
 obtain ⟨z20,e20,hS⟩:=bv hS
 refine st_g h rfl rfl (gT rfl) rfl rfl (fun e0=>vB e20 (v_ne (eg e0 rfl) rfl)) fun a h=>?_
 refine sB h hS rfl (v_and rfl rfl) fun z21 e21 hS a h=>cps 1 h rfl fun a h=>cN k h [0,2,3,61] O4 fun h=>?_
 refine cI h hS rfl (fun ec22 hS=>?_) fun ec22 hS=>?_
 exact nomatch hS
 refine c_skip<|sq<|rg fun K k=>?_
 obtain ⟨c25,hS⟩:=ck hS
 obtain ⟨z26,e26,hS⟩:=bv hS
 refine z_callR (data:=z26) h H rfl rfl rfl ((by rw [e26];exact dC call64 (lib_fields c25 (hG.ext H.out)))) fun v75_27 Z w hsub X H r75_27 a h=>?_
 refine s1 h rfl (v_len U116 rfl (r75_27.at H.zin)) fun a h=>cps 1 h rfl fun a h=>cz k<|lb ?_
 obtain ⟨B29,eB29,hS⟩:=bv hS
 refine lpJ (fun mu_ a w=>∃ (Z:FZ) (s29:Int × Int × Int × (List UInt8) × Int),loopF B29 mu_ s29=some res∧Fr 90 [(0,S x0),(2,(pt p1)),(3,.int .i64 s29.1),(75,v75_27),(76,.int .i64 (z26.length:Int)),(77,.int .i64 s29.2.1)] a∧HZ w0 Zi Z [.blk p1 (Cel [.int .i64 s29.2.2.1,S s29.2.2.2.1,.int .i64 s29.2.2.2.2] 158)] w∧RdZ Z v75_27 1 eS z26) KK ⟨_,_,hS,h.to,H,r75_27⟩ ?_
 rintro mu_ a w ⟨Z,s29,hS,h,H,r75_27⟩
 obtain ⟨mu_,rfl,n29,en29,hS⟩:=lpX eB29 hS
 refine rg fun K k=>sB h hS rfl (v_lt rfl rfl) fun z31 e31 hS a h=>cz k<|sq<|cI h hS rfl (fun ec33 hS=>?_) fun ec33 hS=>?_
 refine c_skip<|sb ?_
 refine rg fun K k=>?_
 obtain ⟨c35,hS⟩:=ck hS
 obtain ⟨z36,e36,hS⟩:=bv hS
 refine st_idx h U116 Z9 rfl rfl (r75_27.at H.zin) (fun _=>rfl) z36 c35.1 (by rw [e36];exact gel_some c35) rfl fun a v79 A79 h=>?_
 refine s1 h rfl (v_loadAt1 rfl A79 A9 rfl) fun a h=>cps 1 h rfl fun a h=>cz k<|rg fun K k=>cps 2 h rfl fun a h=>?_
 obtain ⟨z38,e38,hS⟩:=bv hS
 refine st2v (T:=Ext) (V:=.bool z38) h rfl rfl rfl ((by rw [e38];exact dC call141 (lib_hasPrefix))) fun w X a h=>?_
 have H:=H.ext X
 have A79:=At.ext A79 X
 refine cN k h [0,2,3,12,75,76,77,83] O8 fun h=>?_
 refine cI h hS rfl (fun ec39 hS=>?_) fun ec39 hS=>?_
 refine rg fun K k=>cps 1 h rfl fun a h=>s1 h rfl (v_build bld158 O2 O3 rfl rfl) fun a h=>cps 1 h rfl fun a h=>s1 h rfl (v_slen U9 rfl) fun a h=>zS h H 0 Z158 O3 O3 [_] fun w H=>?_
 refine cps 1 h rfl fun a h=>cN k h [2,3] O2 fun h=>?_
 cases hS
 refine r2 hr h rfl (rvA H 0 isAgg158 Z158 O3) rfl ⟨rfl,H.out⟩
 refine c_skip<|c_lregion<|sI h hS rfl (v_addw rfl rfl) fun z40 e40 hS a h=>cps 1 h rfl fun a h=>c_lnil ?_
 exact exL (ex2 ⟨lpN en29 hS,h.to,H,r75_27⟩)
 refine c_exit ?_
 refine cO h [2,3] O2 fun h=>?_
 exact nomatch hS
theorem lex_All_ok {x0:List UInt8} {res:(List (Tk)) × Int × Int} {w0:World} (hS:lex_All x0=some res) (hG:GW w0):Calls Tryz.prog 69 [S x0].toArray w0 (Ret fun v w=>∃ u1,v=.tuple #[u1,.int .i64 res.2.1,.int .i64 res.2.2]∧RdZ (ZB Z0 w0.heap.size w) u1 3 tkL res.1∧Ext w0 w):=by
 refine en func69 [0] [_] fun Q a Zi Z hzs H h hr=>?_
 clear hzs
 unfold lex_All at hS
 refine rg fun K k=>cps 3 h rfl fun a h=>cz k<|sq<|rg fun K k=>cps 1 h rfl fun a h=>s1 h rfl (v_slen U9 rfl) fun a h=>sB h hS rfl (v_gt rfl rfl) fun z2 e2 hS a h=>cN k h [0,11] O2 fun h=>?_
 refine cI h hS rfl (fun ec3 hS=>?_) fun ec3 hS=>?_
 exact nomatch hS
 refine c_skip<|rg fun K k=>cps 1 h rfl fun a h=>cz k ?_
 have H:=H.nilRow 158 3 rfl
 have H:HZ w0 _ _ [_] _:=H
 obtain ⟨J5,eJ5,hS⟩:=bv hS
 refine sqJ (fun a w=>∃ (Z:FZ) (s5:(List (Tk))) (sv6:Value),J5 s5=some res∧Fr 42 [(5,sv6)] a∧HZ w0 Zi Z [.row 158 3 sv6 (s5:List (Tk)).length ((s5:List (Tk)).flatMap tkL)] w) ?_ ?_
 rintro a w ⟨Z,s5,sv6,hS,h,H⟩
 subst eJ5
 refine rg fun K k=>cps 4 h rfl fun a h=>cz k ?_
 cases hS
 refine r3 hr h rfl rfl rfl rfl ⟨_,rfl,(H.backRow (i:=0) rfl),H.out⟩
 refine rg fun K k=>cps 1 h rfl fun a h=>cz k<|lb ?_
 obtain ⟨B8,eB8,hS⟩:=bv hS
 refine lpJ (fun mu_ a w=>∃ (Z:FZ) (s8:Int × (List (Tk))) (sv10:Value),loopF B8 mu_ s8=some res∧Fr 42 [(0,S x0),(5,sv10),(6,.int .i64 s8.1)] a∧HZ w0 Zi Z [.row 158 3 sv10 (s8.2:List (Tk)).length ((s8.2:List (Tk)).flatMap tkL)] w) KK ⟨_,_,_,hS,h.to,H⟩ ?_
 rintro mu_ a w ⟨Z,s8,sv10,hS,h,H⟩
 obtain ⟨mu_,rfl,n8,en8,hS⟩:=lpX eB8 hS
 refine sq<|rg fun K k=>cps 2 h rfl fun a h=>s1 h rfl (v_slen U9 rfl) fun a h=>sB h hS rfl (v_lt rfl rfl) fun z12 e12 hS a h=>cz k<|cI h hS rfl (fun ec13 hS=>?_) fun ec13 hS=>?_
 refine c_skip<|cO h [0,5,6] O3 fun h=>?_
 refine lb<|sq<|rg fun K k=>cps 2 h rfl fun a h=>?_
 obtain ⟨c16,hS⟩:=ck hS
 refine sI h hS rfl (v_sidx U9 rfl rfl c16) fun z17 e17 hS a h=>sB h hS rfl (v_eq rfl rfl) fun z18 e18 hS a h=>cz k<|cI h hS rfl (fun ec19 hS=>?_) fun ec19 hS=>?_
 exact nomatch hS
 refine c_skip<|cO h [0,5,6] O3 fun h=>?_
 refine rg fun K k=>cps 2 h rfl fun a h=>?_
 obtain ⟨c20,hS⟩:=ck hS
 refine sS h hS rfl (v_scutLo U9 rfl rfl c20) fun z21 e21 hS a h=>sC h H hS rfl (fun y22 f22=>dC call99 (lex_one_ok f22 (hG.ext H.out) :)) fun y22 hS w X H a h=>?_
 refine cps 3 h rfl fun a h=>zA h H zeroValue158 O3 (fun x=>[_,x]) fun a p23 w X H h=>?_
 refine zS h H 1 Z158 O3 O3 O2 fun w H=>?_
 refine cps 1 h rfl fun a h=>cN k h [0,5,6,7,8] O5 fun h=>?_
 refine sq<|rg fun K k=>cps 1 h rfl fun a h=>sB h hS rfl (v_eq rfl rfl) fun z25 e25 hS a h=>cz k<|cI h hS rfl (fun ec26 hS=>?_) fun ec26 hS=>?_
 exact nomatch hS
 refine c_skip<|rg fun K k=>cps 1 h rfl fun a h=>s1 h rfl (v_fieldAddr rfl U158 rfl Z3 rfl rfl) fun a h=>zS h H 1 Z3 [_] O3 O2 fun w H=>?_
 refine cN k h [0,5,6,7,8] O5 fun h=>?_
 refine rg fun K k=>cps 1 h rfl fun a h=>s1 h rfl (lA H 1 isAgg158 Z158 O3) fun a h=>z_slice (enc:=tkL) ([(⟨y22.1.k,y22.1.s,s8.1⟩:Tk)]:List (Tk)) h H U118 Z158 zeroValue158 rfl (zl:=[.int .i64 0,S [],.int .i64 0]) kR (plA_get 1 3) [_] O3 rfl rfl rfl rfl rfl fun a v36_27 Z w hsub X H r36_27 h=>?_
 obtain ⟨c29,hS⟩:=ck hS
 obtain ⟨z30,e30,hS⟩:=bv hS
 refine z_appendS (enc:=tkL) (out:=s8.2) (data:=[(⟨y22.1.k,y22.1.s,s8.1⟩:Tk)]) h H 0 rfl U118 app158 rfl rfl rfl r36_27 (fun _=>rfl) (fun _ _=>rfl) c29 rfl fun a v37_28 w H h=>?_
 rw [←e30] at H
 have H:HZ w0 _ _ O2 _:=H
 refine cps 1 h rfl fun a h=>cN k h [0,5,6,8] O4 fun h=>?_
 refine c_lregion<|cps 2 h rfl fun a h=>sI h hS rfl (v_addw rfl rfl) fun z31 e31 hS a h=>cps 1 h rfl fun a h=>c_lnil ?_
 exact exL (ex3 ⟨lpN en8 hS,h.to,(H.keepN 1 rfl)⟩)
 exact c_exit (ex3 ⟨hS,h.to,H⟩)
end Go.Proofs.YtcecjdnkcbfhlaaGreatDoor
