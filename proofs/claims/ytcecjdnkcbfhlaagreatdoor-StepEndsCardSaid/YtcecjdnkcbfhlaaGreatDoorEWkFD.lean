/- Joined texts. -/
import Derived.Test.YtcecjdnkcbfhlaaGreatDoorES0
import Derived.Test.YtcecjdnkcbfhlaaGreatDoorEWkFC
set_option linter.unusedSimpArgs false
set_option linter.unusedVariables false
set_option linter.unusedSectionVars false
namespace Go.Proofs.YtcecjdnkcbfhlaaGreatDoor
open Go.Stp Go.RowKit Go.ValP Go.Sp _root_.Go.Proofs.Tryz
set_option maxRecDepth 100000
theorem funcs_single_ok {x0:Arg} {res:V} {w0:World} (hS:funcs_single x0=some res) {xv0:Value} (rp0:RdZ (hz w0) xv0 3 vL x0.l):Calls Tryz.prog 197 [.agg #[.bool x0.area,.int .i64 x0.cols,xv0]].toArray w0 (Ret fun v w=>v=.agg #[.int .i64 res.k,.int .i64 res.n,S res.s]∧Ext w0 w):=by
 refine en func197 [0] [_] fun Q a Zi Z hzs H h hr=>?_
 have rp0:=rp0.sub hzs
 clear hzs
 unfold funcs_single at hS
 refine rg fun K k=>z_box h H rfl O3 rfl rfl fun a p1 w X H h=>?_
 have H:HZ w0 _ _ [_] _:=H
 refine zA h H V26 O3 (fun x=>[_,x]) fun a p2 w X H h=>?_
 refine cz k<|sq<|rg fun K k=>s1 h rfl (v_fieldAddr rfl U182 rfl Z63 rfl rfl) fun a h=>s1 h rfl (l1 H 0 isAgg63) fun a h=>s1 h rfl (v_len U63 rfl (rp0.at H.zin)) fun a h=>sB h hS rfl (v_ne rfl rfl) fun z4 e4 hS a h=>cN k h [1,2,6] O3 fun h=>?_
 refine cI h hS rfl (fun ec5 hS=>?_) fun ec5 hS=>?_
 refine rg fun K k=>sC h H hS rfl (fun y6 f6=>dC call21 (value_Fail_ok f6 :)) fun y6 hS w X H a h=>?_
 refine zS h H 1 Z26 O3 O3 O2 fun w H=>?_
 refine cz k ?_
 cases hS
 refine r1 hr h rfl (rvA H 1 A26 Z26 O3) ⟨rfl,H.out⟩
 refine c_skip<|rg fun K k=>s1 h rfl (v_fieldAddr rfl U182 rfl Z63 rfl rfl) fun a h=>s1 h rfl (l1 H 0 isAgg63) fun a h=>?_
 obtain ⟨c7,hS⟩:=ck hS
 obtain ⟨z8,e8,hS⟩:=bv hS
 refine st_idx h U63 Z26 rfl rfl (rp0.at H.zin) (fun _=>rfl) z8 c7.1 (by rw [e8];exact gel_some c7) rfl fun a v10 A10 h=>?_
 refine s1 h rfl (v_loadAtA O3 rfl A10 A26 Z26 rfl rfl) fun a h=>zS h H 1 Z26 O3 O3 O2 fun w H=>?_
 refine cN k h [2] [_] fun h=>?_
 cases hS
 refine r1 hr h rfl (rvA H 1 A26 Z26 O3) ⟨rfl,H.out⟩
theorem funcs_nums_ok {x0:List (Arg)} {res:(List (Int)) × V} {w0:World} (hS:funcs_nums x0=some res) {xv0:Value} (rp0:RdN (hz w0) xv0 argEnc x0):Calls Tryz.prog 163 [xv0].toArray w0 (Ret fun v w=>∃ u1,v=.tuple #[u1,(vA res.2)]∧RdZ (ZB Z0 w0.heap.size w) u1 1 (eI .i64) res.1∧Ext w0 w):=by
 refine en func163 [0] [_] fun Q a Zi Z hzs H h hr=>?_
 have rp0:=rp0.sub hzs
 clear hzs
 unfold funcs_nums at hS
 refine rg fun K k=>cps 1 h rfl fun a h=>zA h H V26 O3 (fun x=>[x]) fun a p1 w X H h=>?_
 refine cz k<|rg fun K k=>cps 1 h rfl fun a h=>cz k ?_
 have H:=H.nilRow 2 1 rfl
 have H:HZ w0 _ _ O2 _:=H
 have H:=H.nilRow 2 1 rfl
 have H:HZ w0 _ _ O3 _:=H
 obtain ⟨J3,eJ3,hS⟩:=bv hS
 refine sqJ (fun a w=>∃ (Z:FZ) (s3:Int × Int × (List UInt8) × (List (Int))) (sv4:Value),J3 s3=some res∧Fr 29 [(3,(pt p1)),(4,sv4)] a∧HZ w0 Zi Z [.blk p1 (Cel [.int .i64 s3.1,.int .i64 s3.2.1,S s3.2.2.1] 26),.row 2 1 (.slice none 0 0) (([]:List (Int)):List (Int)).length ((([]:List (Int)):List (Int)).flatMap (eI .i64)),.row 2 1 sv4 (s3.2.2.2:List (Int)).length ((s3.2.2.2:List (Int)).flatMap (eI .i64))] w) ?_ ?_
 rintro a w ⟨Z,s3,sv4,hS,h,H⟩
 subst eJ3
 refine rg fun K k=>cps 1 h rfl fun a h=>s1 h rfl (v_build bld26 [] O3 rfl rfl) fun a h=>cps 1 h rfl fun a h=>zS h H 0 Z26 O3 O3 O3 fun w H=>?_
 refine cz k ?_
 cases hS
 refine r2 hr h rfl rfl (rvA H 0 A26 Z26 O3) ⟨_,rfl,(H.backRow (i:=2) rfl),H.out⟩
 refine rg fun K k=>cps 1 h rfl fun a h=>s1 h rfl (v_lenN U179 rfl rp0 H.zin) fun a h=>cps 1 h rfl fun a h=>cz k<|lb ?_
 obtain ⟨B6,eB6,hS⟩:=bv hS
 refine lpJ (fun mu_ a w=>∃ (Z:FZ) (s6:Int × Int × Int × (List UInt8) × (List (Int))) (sv8:Value),loopF B6 mu_ s6=some res∧Fr 29 [(3,(pt p1)),(4,sv8),(8,xv0),(9,.int .i64 (x0.length:Int)),(10,.int .i64 s6.1)] a∧HZ w0 Zi Z [.blk p1 (Cel [.int .i64 s6.2.1,.int .i64 s6.2.2.1,S s6.2.2.2.1] 26),.row 2 1 (.slice none 0 0) (([]:List (Int)):List (Int)).length ((([]:List (Int)):List (Int)).flatMap (eI .i64)),.row 2 1 sv8 (s6.2.2.2.2:List (Int)).length ((s6.2.2.2.2:List (Int)).flatMap (eI .i64))] w∧RdN Z xv0 argEnc x0) KK ⟨_,_,_,hS,h.to,H,rp0⟩ ?_
 rintro mu_ a w ⟨Z,s6,sv8,hS,h,H,rp0⟩
 obtain ⟨mu_,rfl,n6,en6,hS⟩:=lpX eB6 hS
 refine rg fun K k=>sB h hS rfl (v_lt rfl rfl) fun z9 e9 hS a h=>cz k<|sq<|cI h hS rfl (fun ec11 hS=>?_) fun ec11 hS=>?_
 refine c_skip<|sb ?_
 refine rg fun K k=>?_
 obtain ⟨c13,hS⟩:=ck hS
 obtain ⟨z14,e14,hS⟩:=bv hS
 have q_15:=rp0.gel ⟨_,argEnc_dflt⟩ s6.1
 rw [←e14] at q_15
 obtain ⟨css_15,cl_15,rc_15,hc_15,v12_15_1,hcs_15,r12_15_1⟩:=q_15
 refine st_idxC h U179 Z182 rfl rfl (rc_15.at H.zin) c13.1 (hc_15 c13) hcs_15 rfl fun a v12 A12 h=>?_
 refine s1 h rfl (v_loadAtA O3 rfl A12 isAgg182 Z182 rfl rfl) fun a h=>zA h H zeroValue182 O3 (fun x=>[_,_,_,x]) fun a p16 w X H h=>?_
 have A12:=At.ext A12 X
 refine z_store h H 3 rfl rfl rfl Z182 O3 rfl rfl (by obtain ⟨_,_,_,e_⟩:=(r12_15_1).form;subst e_;rfl) (by simp) O3 rfl (hl':=O4) rfl fun w H=>?_
 refine cz k<|rg fun K k=>s1 h rfl (lA H 3 isAgg182 Z182 O3) fun a h=>sC h H hS rfl (fun y17 f17=>dC call197 (funcs_single_ok f17 (r12_15_1.hz H.zin) :)) fun y17 hS w X H a h=>?_
 refine sC h H hS rfl (fun y18 f18=>dC call115 (value_ToNum_ok f18 :)) fun y18 hS w X H a h=>?_
 refine zA h H V26 O3 (fun x=>[_,_,_,_,x]) fun a p19 w X H h=>?_
 refine zS h H 4 Z26 O3 O3 O5 fun w H=>?_
 refine cN k h [3,4,7,8,9,10] O6 fun h=>?_
 refine sq<|rg fun K k=>s1 h rfl (v_fieldAddr rfl U26 rfl Z3 rfl rfl) fun a h=>s1 h rfl (l1 H 4 A3) fun a h=>sB h hS rfl (v_eq rfl rfl) fun z21 e21 hS a h=>cz k<|cI h hS rfl (fun ec22 hS=>?_) fun ec22 hS=>?_
 refine flT 2 h fun K k=>?_
 refine F1 rfl (fun w X=>have H:=H.ext X;lA H 4 A26 Z26 O3) ?_
 refine fcps 1 rfl ?_
 refine fE [2,3,20] O3 H fun a w X H h=>?_
 refine zS h H 0 Z26 O3 O3 O5 fun w H=>?_
 refine cz k ?_
 cases hS
 refine r2 hr h rfl rfl (rvA H 0 A26 Z26 O3) ⟨_,rfl,RdZ.nil,H.out⟩
 refine c_skip<|c_lregion<|cps 1 h rfl fun a h=>s1 h rfl (v_fieldAddr rfl U26 rfl Z2 rfl rfl) fun a h=>s1 h rfl (l1 H 4 A2) fun a h=>z_slice (enc:=(eI .i64)) ([y18.n]:List (Int)) h H U231 Z2 zeroValue2 rfl (zl:=[.int .i64 0]) kR (plA_get 1 1) [_] [_] rfl rfl rfl rfl rfl fun a v24_23 Z w hsub X H r24_23 h=>?_
 have r12_15_1:=r12_15_1.sub hsub
 have rp0:=rp0.sub hsub
 obtain ⟨c25,hS⟩:=ck hS
 obtain ⟨z26,e26,hS⟩:=bv hS
 refine z_appendS (enc:=(eI .i64)) (out:=s6.2.2.2.2) (data:=[y18.n]) h H 2 rfl U231 app2 rfl rfl rfl r24_23 (fun _=>rfl) (fun _ _=>rfl) c25 rfl fun a v25_24 w H h=>?_
 rw [←e26] at H
 have H:HZ w0 _ _ O5 _:=H
 refine cps 1 h rfl fun a h=>c_lnil<|cO h [3,4,8,9,10] O5 fun h=>?_
 refine c_lregion<|sI h hS rfl (v_addw rfl rfl) fun z27 e27 hS a h=>cps 1 h rfl fun a h=>c_lnil ?_
 exact exL (ex3 ⟨lpN en6 hS,h.to,(H.keepN 3 rfl),rp0⟩)
 exact c_exit (ex3 ⟨hS,h.to,H⟩)
theorem funcs_strs_ok {x0:List (Arg)} {res:(List (List UInt8)) × V} {w0:World} (hS:funcs_strs x0=some res) {xv0:Value} (rp0:RdN (hz w0) xv0 argEnc x0) (hG:GW w0):Calls Tryz.prog 166 [xv0].toArray w0 (Ret fun v w=>∃ u1,v=.tuple #[u1,(vA res.2)]∧RdZ (ZB Z0 w0.heap.size w) u1 1 eS res.1∧Ext w0 w):=by
 refine en func166 [0] [_] fun Q a Zi Z hzs H h hr=>?_
 have rp0:=rp0.sub hzs
 clear hzs
 unfold funcs_strs at hS
 refine rg fun K k=>cps 1 h rfl fun a h=>zA h H V26 O3 (fun x=>[x]) fun a p1 w X H h=>?_
 refine cz k<|rg fun K k=>cps 1 h rfl fun a h=>cz k ?_
 have H:=H.nilRow 9 1 rfl
 have H:HZ w0 _ _ O2 _:=H
 have H:=H.nilRow 9 1 rfl
 have H:HZ w0 _ _ O3 _:=H
 obtain ⟨J3,eJ3,hS⟩:=bv hS
 refine sqJ (fun a w=>∃ (Z:FZ) (s3:Int × Int × (List UInt8) × (List (List UInt8))) (sv4:Value),J3 s3=some res∧Fr 29 [(3,(pt p1)),(4,sv4)] a∧HZ w0 Zi Z [.blk p1 (Cel [.int .i64 s3.1,.int .i64 s3.2.1,S s3.2.2.1] 26),.row 9 1 (.slice none 0 0) (([]:List (List UInt8)):List (List UInt8)).length ((([]:List (List UInt8)):List (List UInt8)).flatMap eS),.row 9 1 sv4 (s3.2.2.2:List (List UInt8)).length ((s3.2.2.2:List (List UInt8)).flatMap eS)] w) ?_ ?_
 rintro a w ⟨Z,s3,sv4,hS,h,H⟩
 subst eJ3
 refine rg fun K k=>cps 1 h rfl fun a h=>s1 h rfl (v_build bld26 [] O3 rfl rfl) fun a h=>cps 1 h rfl fun a h=>zS h H 0 Z26 O3 O3 O3 fun w H=>?_
 refine cz k ?_
 cases hS
 refine r2 hr h rfl rfl (rvA H 0 A26 Z26 O3) ⟨_,rfl,(H.backRow (i:=2) rfl),H.out⟩
 refine rg fun K k=>cps 1 h rfl fun a h=>s1 h rfl (v_lenN U179 rfl rp0 H.zin) fun a h=>cps 1 h rfl fun a h=>cz k<|lb ?_
 obtain ⟨B6,eB6,hS⟩:=bv hS
 refine lpJ (fun mu_ a w=>∃ (Z:FZ) (s6:Int × Int × Int × (List UInt8) × (List (List UInt8))) (sv8:Value),loopF B6 mu_ s6=some res∧Fr 29 [(3,(pt p1)),(4,sv8),(8,xv0),(9,.int .i64 (x0.length:Int)),(10,.int .i64 s6.1)] a∧HZ w0 Zi Z [.blk p1 (Cel [.int .i64 s6.2.1,.int .i64 s6.2.2.1,S s6.2.2.2.1] 26),.row 9 1 (.slice none 0 0) (([]:List (List UInt8)):List (List UInt8)).length ((([]:List (List UInt8)):List (List UInt8)).flatMap eS),.row 9 1 sv8 (s6.2.2.2.2:List (List UInt8)).length ((s6.2.2.2.2:List (List UInt8)).flatMap eS)] w∧RdN Z xv0 argEnc x0) KK ⟨_,_,_,hS,h.to,H,rp0⟩ ?_
 rintro mu_ a w ⟨Z,s6,sv8,hS,h,H,rp0⟩
 obtain ⟨mu_,rfl,n6,en6,hS⟩:=lpX eB6 hS
 refine rg fun K k=>sB h hS rfl (v_lt rfl rfl) fun z9 e9 hS a h=>cz k<|sq<|cI h hS rfl (fun ec11 hS=>?_) fun ec11 hS=>?_
 refine c_skip<|sb ?_
 refine rg fun K k=>?_
 obtain ⟨c13,hS⟩:=ck hS
 obtain ⟨z14,e14,hS⟩:=bv hS
 have q_15:=rp0.gel ⟨_,argEnc_dflt⟩ s6.1
 rw [←e14] at q_15
 obtain ⟨css_15,cl_15,rc_15,hc_15,v12_15_1,hcs_15,r12_15_1⟩:=q_15
 refine st_idxC h U179 Z182 rfl rfl (rc_15.at H.zin) c13.1 (hc_15 c13) hcs_15 rfl fun a v12 A12 h=>?_
 refine s1 h rfl (v_loadAtA O3 rfl A12 isAgg182 Z182 rfl rfl) fun a h=>zA h H zeroValue182 O3 (fun x=>[_,_,_,x]) fun a p16 w X H h=>?_
 have A12:=At.ext A12 X
 refine z_store h H 3 rfl rfl rfl Z182 O3 rfl rfl (by obtain ⟨_,_,_,e_⟩:=(r12_15_1).form;subst e_;rfl) (by simp) O3 rfl (hl':=O4) rfl fun w H=>?_
 refine cz k<|rg fun K k=>s1 h rfl (lA H 3 isAgg182 Z182 O3) fun a h=>sC h H hS rfl (fun y17 f17=>dC call197 (funcs_single_ok f17 (r12_15_1.hz H.zin) :)) fun y17 hS w X H a h=>?_
 refine sC h H hS rfl (fun y18 f18=>dC call205 (value_ToText_ok f18 (hG.ext H.out) :)) fun y18 hS w X H a h=>?_
 refine zA h H V26 O3 (fun x=>[_,_,_,_,x]) fun a p19 w X H h=>?_
 refine zS h H 4 Z26 O3 O3 O5 fun w H=>?_
 refine cN k h [3,4,7,8,9,10] O6 fun h=>?_
 refine sq<|rg fun K k=>s1 h rfl (v_fieldAddr rfl U26 rfl Z3 rfl rfl) fun a h=>s1 h rfl (l1 H 4 A3) fun a h=>sB h hS rfl (v_eq rfl rfl) fun z21 e21 hS a h=>cz k<|cI h hS rfl (fun ec22 hS=>?_) fun ec22 hS=>?_
 refine flT 2 h fun K k=>?_
 refine F1 rfl (fun w X=>have H:=H.ext X;lA H 4 A26 Z26 O3) ?_
 refine fcps 1 rfl ?_
 refine fE [2,3,20] O3 H fun a w X H h=>?_
 refine zS h H 0 Z26 O3 O3 O5 fun w H=>?_
 refine cz k ?_
 cases hS
 refine r2 hr h rfl rfl (rvA H 0 A26 Z26 O3) ⟨_,rfl,RdZ.nil,H.out⟩
 refine c_skip<|c_lregion<|cps 1 h rfl fun a h=>s1 h rfl (v_fieldAddr rfl U26 rfl Z9 rfl rfl) fun a h=>s1 h rfl (l1 H 4 A9) fun a h=>z_slice (enc:=eS) ([y18.s]:List (List UInt8)) h H U116 Z9 zeroValue9 rfl (zl:=[S []]) kR (plA_get 1 1) [_] [_] rfl rfl rfl rfl rfl fun a v24_23 Z w hsub X H r24_23 h=>?_
 have r12_15_1:=r12_15_1.sub hsub
 have rp0:=rp0.sub hsub
 obtain ⟨c25,hS⟩:=ck hS
 obtain ⟨z26,e26,hS⟩:=bv hS
 refine z_appendS (enc:=eS) (out:=s6.2.2.2.2) (data:=[y18.s]) h H 2 rfl U116 app9 rfl rfl rfl r24_23 (fun _=>rfl) (fun _ _=>rfl) c25 rfl fun a v25_24 w H h=>?_
 rw [←e26] at H
 have H:HZ w0 _ _ O5 _:=H
 refine cps 1 h rfl fun a h=>c_lnil<|cO h [3,4,8,9,10] O5 fun h=>?_
 refine c_lregion<|sI h hS rfl (v_addw rfl rfl) fun z27 e27 hS a h=>cps 1 h rfl fun a h=>c_lnil ?_
 exact exL (ex3 ⟨lpN en6 hS,h.to,(H.keepN 3 rfl),rp0⟩)
 exact c_exit (ex3 ⟨hS,h.to,H⟩)
theorem funcs_all_ok {x0:List (Arg)} {res:(List (V))} {w0:World} (hS:funcs_all x0=some res) {xv0:Value} (rp0:RdN (hz w0) xv0 argEnc x0):Calls Tryz.prog 213 [xv0].toArray w0 (Ret fun v w=>RdZ (ZB Z0 w0.heap.size w) v 3 vL res∧Ext w0 w):=by
 refine en func213 [0] [_] fun Q a Zi Z hzs H h hr=>?_
 have rp0:=rp0.sub hzs
 clear hzs
 unfold funcs_all at hS
 refine rg fun K k=>cps 1 h rfl fun a h=>cz k<|rg fun K k=>cps 1 h rfl fun a h=>cz k ?_
 have H:=H.nilRow 26 3 rfl
 have H:HZ w0 _ _ [_] _:=H
 obtain ⟨J2,eJ2,hS⟩:=bv hS
 refine sqJ (fun a w=>∃ (Z:FZ) (s2:(List (V))) (sv3:Value),J2 s2=some res∧Fr 18 [(3,sv3)] a∧HZ w0 Zi Z [.row 26 3 sv3 (s2:List (V)).length ((s2:List (V)).flatMap vL)] w) ?_ ?_
 rintro a w ⟨Z,s2,sv3,hS,h,H⟩
 subst eJ2
 refine rg fun K k=>cps 2 h rfl fun a h=>cz k ?_
 cases hS
 refine r1 hr h rfl rfl ⟨(H.backRow (i:=0) rfl),H.out⟩
 refine rg fun K k=>cps 1 h rfl fun a h=>s1 h rfl (v_lenN U179 rfl rp0 H.zin) fun a h=>cps 1 h rfl fun a h=>cz k<|lb ?_
 obtain ⟨B5,eB5,hS⟩:=bv hS
 refine lpJ (fun mu_ a w=>∃ (Z:FZ) (s5:Int × (List (V))) (sv7:Value),loopF B5 mu_ s5=some res∧Fr 18 [(3,sv7),(6,xv0),(7,.int .i64 (x0.length:Int)),(8,.int .i64 s5.1)] a∧HZ w0 Zi Z [.row 26 3 sv7 (s5.2:List (V)).length ((s5.2:List (V)).flatMap vL)] w∧RdN Z xv0 argEnc x0) KK ⟨_,_,_,hS,h.to,H,rp0⟩ ?_
 rintro mu_ a w ⟨Z,s5,sv7,hS,h,H,rp0⟩
 obtain ⟨mu_,rfl,n5,en5,hS⟩:=lpX eB5 hS
 refine rg fun K k=>sB h hS rfl (v_lt rfl rfl) fun z8 e8 hS a h=>cz k<|sq<|cI h hS rfl (fun ec10 hS=>?_) fun ec10 hS=>?_
 refine c_skip<|sb ?_
 refine rg fun K k=>?_
 obtain ⟨c12,hS⟩:=ck hS
 obtain ⟨z13,e13,hS⟩:=bv hS
 have q_14:=rp0.gel ⟨_,argEnc_dflt⟩ s5.1
 rw [←e13] at q_14
 obtain ⟨css_14,cl_14,rc_14,hc_14,v10_14_1,hcs_14,r10_14_1⟩:=q_14
 refine st_idxC h U179 Z182 rfl rfl (rc_14.at H.zin) c12.1 (hc_14 c12) hcs_14 rfl fun a v10 A10 h=>?_
 refine s1 h rfl (v_loadAtA O3 rfl A10 isAgg182 Z182 rfl rfl) fun a h=>zA h H zeroValue182 O3 (fun x=>[_,x]) fun a p15 w X H h=>?_
 have A10:=At.ext A10 X
 refine z_store h H 1 rfl rfl rfl Z182 O3 rfl rfl (by obtain ⟨_,_,_,e_⟩:=(r10_14_1).form;subst e_;rfl) (by simp) O3 rfl (hl':=O2) rfl fun w H=>?_
 refine cz k<|c_lregion<|cps 1 h rfl fun a h=>s1 h rfl (v_fieldAddr rfl U182 rfl Z63 rfl rfl) fun a h=>s1 h rfl (l1 H 1 isAgg63) fun a h=>?_
 obtain ⟨c17,hS⟩:=ck hS
 obtain ⟨z18,e18,hS⟩:=bv hS
 refine z_appendS (enc:=vL) (out:=s5.2) (data:=z13.l) h H 0 rfl U63 app26 rfl rfl rfl r10_14_1 (fun _=>rfl) (fun _ _=>rfl) c17 rfl fun a v15_16 w H h=>?_
 rw [←e18] at H
 have H:HZ w0 _ _ O2 _:=H
 refine cps 1 h rfl fun a h=>c_lnil<|cO h [3,6,7,8] O4 fun h=>?_
 refine c_lregion<|sI h hS rfl (v_addw rfl rfl) fun z19 e19 hS a h=>cps 1 h rfl fun a h=>c_lnil ?_
 exact exL (ex3 ⟨lpN en5 hS,h.to,(H.keepN 1 rfl),rp0⟩)
 exact c_exit (ex3 ⟨hS,h.to,H⟩)
theorem funcs_kind_ok {x0:List UInt8} {x1:V} {res:V} {w0:World} (hS:funcs_kind x0 x1=some res):Calls Tryz.prog 224 [S x0,(vA x1)].toArray w0 (Ret fun v w=>v=.agg #[.int .i64 res.k,.int .i64 res.n,S res.s]∧Ext w0 w):=by
 refine en func224 [0,1] O2 fun Q a Zi Z hzs H h hr=>?_
 clear hzs
 unfold funcs_kind at hS
 refine rg fun K k=>z_box h H rfl O3 rfl rfl fun a p1 w X H h=>?_
 have H:HZ w0 _ _ [_] _:=H
 refine zA h H V26 O3 (fun x=>[_,x]) fun a p2 w X H h=>?_
 refine cz k<|sq<|rg fun K k=>cps 1 h rfl fun a h=>cz k<|lb<|rg fun K k=>sB h hS rfl (v_seq rfl rfl) fun z5 e5 hS a h=>cps 1 h rfl fun a h=>cz k<|cI h hS rfl (fun ec6 hS=>?_) fun ec6 hS=>?_
 refine rg fun K k=>s1 h rfl (v_fieldAddr rfl U26 rfl Z3 rfl rfl) fun a h=>s1 h rfl (l1 H 0 A3) fun a h=>sB h hS rfl (v_eq rfl rfl) fun z7 e7 hS a h=>sC h H hS rfl (fun y8 f8=>dC call24 (value_Bool_ok f8 :)) fun y8 hS w X H a h=>?_
 refine zS h H 1 Z26 O3 O3 O2 fun w H=>?_
 refine cN k h [4] [_] fun h=>?_
 cases hS
 refine r1 hr h rfl (rvA H 1 A26 Z26 O3) ⟨rfl,H.out⟩
 refine rg fun K k=>sB h hS rfl (v_seq rfl rfl) fun z9 e9 hS a h=>cps 1 h rfl fun a h=>cN k h [3,4,6,13] O4 fun h=>?_
 refine cI h hS rfl (fun ec10 hS=>?_) fun ec10 hS=>?_
 refine rg fun K k=>s1 h rfl (v_fieldAddr rfl U26 rfl Z3 rfl rfl) fun a h=>s1 h rfl (l1 H 0 A3) fun a h=>sB h hS rfl (v_eq rfl rfl) fun z11 e11 hS a h=>sC h H hS rfl (fun y12 f12=>dC call24 (value_Bool_ok f12 :)) fun y12 hS w X H a h=>?_
 refine zS h H 1 Z26 O3 O3 O2 fun w H=>?_
 refine cN k h [4] [_] fun h=>?_
 cases hS
 refine r1 hr h rfl (rvA H 1 A26 Z26 O3) ⟨rfl,H.out⟩
 refine rg fun K k=>sB h hS rfl (v_seq rfl rfl) fun z13 e13 hS a h=>cps 1 h rfl fun a h=>cz k<|cI h hS rfl (fun ec14 hS=>?_) fun ec14 hS=>?_
 refine rg fun K k=>s1 h rfl (v_fieldAddr rfl U26 rfl Z3 rfl rfl) fun a h=>s1 h rfl (l1 H 0 A3) fun a h=>sB h hS rfl (v_eq rfl rfl) fun z15 e15 hS a h=>sC h H hS rfl (fun y16 f16=>dC call24 (value_Bool_ok f16 :)) fun y16 hS w X H a h=>?_
 refine zS h H 1 Z26 O3 O3 O2 fun w H=>?_
 refine cN k h [4] [_] fun h=>?_
 cases hS
 refine r1 hr h rfl (rvA H 1 A26 Z26 O3) ⟨rfl,H.out⟩
 refine rg fun K k=>sB h hS rfl (v_seq rfl rfl) fun z17 e17 hS a h=>cps 1 h rfl fun a h=>cN k h [3,4,6,25] O4 fun h=>?_
 refine cI h hS rfl (fun ec18 hS=>?_) fun ec18 hS=>?_
 refine rg fun K k=>s1 h rfl (v_fieldAddr rfl U26 rfl Z3 rfl rfl) fun a h=>s1 h rfl (l1 H 0 A3) fun a h=>sB h hS rfl (v_eq rfl rfl) fun z19 e19 hS a h=>sC h H hS rfl (fun y20 f20=>dC call24 (value_Bool_ok f20 :)) fun y20 hS w X H a h=>?_
 refine zS h H 1 Z26 O3 O3 O2 fun w H=>?_
 refine cN k h [4] [_] fun h=>?_
 cases hS
 refine r1 hr h rfl (rvA H 1 A26 Z26 O3) ⟨rfl,H.out⟩
 refine rg fun K k=>sB h hS rfl (v_seq rfl rfl) fun z21 e21 hS a h=>cps 1 h rfl fun a h=>cz k<|cI h hS rfl (fun ec22 hS=>?_) fun ec22 hS=>?_
 refine rg fun K k=>s1 h rfl (v_fieldAddr rfl U26 rfl Z3 rfl rfl) fun a h=>s1 h rfl (l1 H 0 A3) fun a h=>sB h hS rfl (v_eq rfl rfl) fun z23 e23 hS a h=>sC h H hS rfl (fun y24 f24=>dC call24 (value_Bool_ok f24 :)) fun y24 hS w X H a h=>?_
 refine zS h H 1 Z26 O3 O3 O2 fun w H=>?_
 refine cN k h [4] [_] fun h=>?_
 cases hS
 refine r1 hr h rfl (rvA H 1 A26 Z26 O3) ⟨rfl,H.out⟩
 refine rg fun K k=>sB h hS rfl (v_seq rfl rfl) fun z25 e25 hS a h=>cps 1 h rfl fun a h=>cN k h [3,4,37] O3 fun h=>?_
 refine cI h hS rfl (fun ec26 hS=>?_) fun ec26 hS=>?_
 refine rg fun K k=>s1 h rfl (lA H 0 A26 Z26 O3) fun a h=>sC h H hS rfl (fun y27 f27=>dC call31 (value_ToBool_ok f27 :)) fun y27 hS w X H a h=>?_
 refine zA h H V26 O3 (fun x=>[_,_,x]) fun a p28 w X H h=>?_
 refine zS h H 2 Z26 O3 O3 O3 fun w H=>?_
 refine cN k h [4,5] O2 fun h=>?_
 refine sq<|rg fun K k=>s1 h rfl (v_fieldAddr rfl U26 rfl Z3 rfl rfl) fun a h=>s1 h rfl (l1 H 2 A3) fun a h=>sB h hS rfl (v_eq rfl rfl) fun z30 e30 hS a h=>cz k<|cI h hS rfl (fun ec31 hS=>?_) fun ec31 hS=>?_
 refine rg fun K k=>s1 h rfl (lA H 2 A26 Z26 O3) fun a h=>zS h H 1 Z26 O3 O3 O3 fun w H=>?_
 refine cN k h [4] [_] fun h=>?_
 cases hS
 refine r1 hr h rfl (rvA H 1 A26 Z26 O3) ⟨rfl,H.out⟩
 refine c_skip<|rg fun K k=>s1 h rfl (v_fieldAddr rfl U26 rfl Z2 rfl rfl) fun a h=>s1 h rfl (l1 H 2 A2) fun a h=>sB h hS rfl (v_eq rfl rfl) fun z32 e32 hS a h=>sC h H hS rfl (fun y33 f33=>dC call24 (value_Bool_ok f33 :)) fun y33 hS w X H a h=>?_
 refine zS h H 1 Z26 O3 O3 O3 fun w H=>?_
 refine cN k h [4] [_] fun h=>?_
 cases hS
 refine r1 hr h rfl (rvA H 1 A26 Z26 O3) ⟨rfl,H.out⟩
 refine c_skip<|rg fun K k=>sC h H hS rfl (fun y34 f34=>dC call21 (value_Fail_ok f34 :)) fun y34 hS w X H a h=>?_
 refine zS h H 1 Z26 O3 O3 O2 fun w H=>?_
 refine cz k ?_
 cases hS
 refine r1 hr h rfl (rvA H 1 A26 Z26 O3) ⟨rfl,H.out⟩
theorem funcs_list_ok {x0:List UInt8} {x1:List (Arg)} {res:V} {w0:World} (hS:funcs_list x0 x1=some res) {xv1:Value} (rp1:RdN (hz w0) xv1 argEnc x1):Calls Tryz.prog 170 [S x0,xv1].toArray w0 (Ret fun v w=>v=.agg #[.int .i64 res.k,.int .i64 res.n,S res.s]∧Ext w0 w):=by
 refine en func170 [0,1] O2 fun Q a Zi Z hzs H h hr=>?_
 have rp1:=rp1.sub hzs
 clear hzs
 unfold funcs_list at hS
 refine rg fun K k=>zA h H V26 O3 (fun x=>[x]) fun a p1 w X H h=>?_
 refine cz k<|sq<|rg fun K k=>cps 1 h rfl fun a h=>cz k<|lb ?_
 obtain ⟨J5,eJ5,hS⟩:=bv hS
 refine sqJ (fun a w=>∃ (Z:FZ) (s5:Bool),J5 s5=some res∧Fr 186 [(0,S x0),(1,xv1),(4,(pt p1)),(9,S x0),(10,.bool s5)] a∧HZ w0 Zi Z [.blk p1 (Cel [.int .i64 0,.int .i64 0,S []] 26)] w∧RdN Z xv1 argEnc x1) ?_ ?_
 rintro a w ⟨Z,s5,hS,h,H,rp1⟩
 subst eJ5
 refine cI h hS rfl (fun ec6 hS=>?_) fun ec6 hS=>?_
 refine rg fun K k=>cps 1 h rfl fun a h=>sB h hS rfl (v_seq rfl rfl) fun z7 e7 hS a h=>cps 1 h rfl fun a h=>?_
 obtain ⟨y8,f8,hS⟩:=bo hS
 refine z_callR (data:=y8) h H rfl rfl rfl (dC call213 (funcs_all_ok (x0:=x1) f8 (rp1.hz H.zin))) fun v16_9 Z w hsub X H r16_9 a h=>?_
 have rp1:=rp1.sub hsub
 refine sC h H hS rfl (fun y10 f10=>dC call212 (lists_Extreme_ok f10 (r16_9.hz H.zin) :)) fun y10 hS w X H a h=>?_
 refine zS h H 0 Z26 O3 O3 [_] fun w H=>?_
 refine cN k h [4] [_] fun h=>?_
 cases hS
 refine r1 hr h rfl (rvA H 0 A26 Z26 O3) ⟨rfl,H.out⟩
 refine rg fun K k=>sB h hS rfl (v_seq rfl rfl) fun z11 e11 hS a h=>cps 1 h rfl fun a h=>cz k<|cI h hS rfl (fun ec12 hS=>?_) fun ec12 hS=>?_
 refine rg fun K k=>cps 1 h rfl fun a h=>?_
 obtain ⟨y13,f13,hS⟩:=bo hS
 refine z_callR (data:=y13) h H rfl rfl rfl (dC call213 (funcs_all_ok (x0:=x1) f13 (rp1.hz H.zin))) fun v21_14 Z w hsub X H r21_14 a h=>?_
 have rp1:=rp1.sub hsub
 refine sC h H hS rfl (fun y15 f15=>dC call214 (lists_Sum_ok f15 (r21_14.hz H.zin) :)) fun y15 hS w X H a h=>?_
 refine zS h H 0 Z26 O3 O3 [_] fun w H=>?_
 refine cN k h [4] [_] fun h=>?_
 cases hS
 refine r1 hr h rfl (rvA H 0 A26 Z26 O3) ⟨rfl,H.out⟩
 refine rg fun K k=>sB h hS rfl (v_seq rfl rfl) fun z16 e16 hS a h=>cps 1 h rfl fun a h=>cN k h [0,1,4,9,23] O5 fun h=>?_
 refine cI h hS rfl (fun ec17 hS=>?_) fun ec17 hS=>?_
 refine rg fun K k=>cps 1 h rfl fun a h=>?_
 obtain ⟨y18,f18,hS⟩:=bo hS
 refine z_callR (data:=y18) h H rfl rfl rfl (dC call213 (funcs_all_ok (x0:=x1) f18 (rp1.hz H.zin))) fun v26_19 Z w hsub X H r26_19 a h=>?_
 have rp1:=rp1.sub hsub
 refine sC h H hS rfl (fun y20 f20=>dC call215 (lists_Product_ok f20 (r26_19.hz H.zin) :)) fun y20 hS w X H a h=>?_
 refine zS h H 0 Z26 O3 O3 [_] fun w H=>?_
 refine cN k h [4] [_] fun h=>?_
 cases hS
 refine r1 hr h rfl (rvA H 0 A26 Z26 O3) ⟨rfl,H.out⟩
 refine rg fun K k=>sB h hS rfl (v_seq rfl rfl) fun z21 e21 hS a h=>cps 1 h rfl fun a h=>cz k<|cI h hS rfl (fun ec22 hS=>?_) fun ec22 hS=>?_
 refine rg fun K k=>cps 1 h rfl fun a h=>?_
 obtain ⟨y23,f23,hS⟩:=bo hS
 refine z_callR (data:=y23) h H rfl rfl rfl (dC call213 (funcs_all_ok (x0:=x1) f23 (rp1.hz H.zin))) fun v31_24 Z w hsub X H r31_24 a h=>?_
 have rp1:=rp1.sub hsub
 refine sC h H hS rfl (fun y25 f25=>dC call216 (lists_Count_ok f25 (r31_24.hz H.zin) :)) fun y25 hS w X H a h=>?_
 refine zS h H 0 Z26 O3 O3 [_] fun w H=>?_
 refine cN k h [4] [_] fun h=>?_
 cases hS
 refine r1 hr h rfl (rvA H 0 A26 Z26 O3) ⟨rfl,H.out⟩
 refine rg fun K k=>sB h hS rfl (v_seq rfl rfl) fun z26 e26 hS a h=>cps 1 h rfl fun a h=>cN k h [0,1,4,9,33] O5 fun h=>?_
 refine cI h hS rfl (fun ec27 hS=>?_) fun ec27 hS=>?_
 refine rg fun K k=>cps 1 h rfl fun a h=>?_
 obtain ⟨y28,f28,hS⟩:=bo hS
 refine z_callR (data:=y28) h H rfl rfl rfl (dC call213 (funcs_all_ok (x0:=x1) f28 (rp1.hz H.zin))) fun v36_29 Z w hsub X H r36_29 a h=>?_
 have rp1:=rp1.sub hsub
 refine sC h H hS rfl (fun y30 f30=>dC call216 (lists_Count_ok f30 (r36_29.hz H.zin) :)) fun y30 hS w X H a h=>?_
 refine zS h H 0 Z26 O3 O3 [_] fun w H=>?_
 refine cN k h [4] [_] fun h=>?_
 cases hS
 refine r1 hr h rfl (rvA H 0 A26 Z26 O3) ⟨rfl,H.out⟩
 refine rg fun K k=>sB h hS rfl (v_seq rfl rfl) fun z31 e31 hS a h=>cps 1 h rfl fun a h=>cz k<|cI h hS rfl (fun ec32 hS=>?_) fun ec32 hS=>?_
 refine rg fun K k=>cps 1 h rfl fun a h=>?_
 obtain ⟨y33,f33,hS⟩:=bo hS
 refine z_callR (data:=y33) h H rfl rfl rfl (dC call213 (funcs_all_ok (x0:=x1) f33 (rp1.hz H.zin))) fun v41_34 Z w hsub X H r41_34 a h=>?_
 have rp1:=rp1.sub hsub
 refine sC h H hS rfl (fun y35 f35=>dC call216 (lists_Count_ok f35 (r41_34.hz H.zin) :)) fun y35 hS w X H a h=>?_
 refine zS h H 0 Z26 O3 O3 [_] fun w H=>?_
 refine cN k h [4] [_] fun h=>?_
 cases hS
 refine r1 hr h rfl (rvA H 0 A26 Z26 O3) ⟨rfl,H.out⟩
 refine rg fun K k=>sB h hS rfl (v_seq rfl rfl) fun z36 e36 hS a h=>cps 1 h rfl fun a h=>cN k h [0,1,4,9,43] O5 fun h=>?_
 refine cI h hS rfl (fun ec37 hS=>?_) fun ec37 hS=>?_
 refine rg fun K k=>cps 1 h rfl fun a h=>?_
 obtain ⟨y38,f38,hS⟩:=bo hS
 refine z_callR (data:=y38) h H rfl rfl rfl (dC call213 (funcs_all_ok (x0:=x1) f38 (rp1.hz H.zin))) fun v46_39 Z w hsub X H r46_39 a h=>?_
 have rp1:=rp1.sub hsub
 refine sC h H hS rfl (fun y40 f40=>dC call217 (lists_Average_ok f40 (r46_39.hz H.zin) :)) fun y40 hS w X H a h=>?_
 refine zS h H 0 Z26 O3 O3 [_] fun w H=>?_
 refine cN k h [4] [_] fun h=>?_
 cases hS
 refine r1 hr h rfl (rvA H 0 A26 Z26 O3) ⟨rfl,H.out⟩
 refine rg fun K k=>sB h hS rfl (v_seq rfl rfl) fun z41 e41 hS a h=>cps 1 h rfl fun a h=>cz k<|cI h hS rfl (fun ec42 hS=>?_) fun ec42 hS=>?_
 refine flT 9 h fun K k=>?_
 refine fcps 1 rfl ?_
 obtain ⟨c43,hS⟩:=ck hS
 obtain ⟨z44,e44,hS⟩:=bv hS
 have q_45:=rp1.gel ⟨_,argEnc_dflt⟩ 1
 rw [←e44] at q_45
 obtain ⟨css_45,cl_45,rc_45,hc_45,v51_45_1,hcs_45,r51_45_1⟩:=q_45
 refine f_op [50] rfl rfl rfl rfl false (.rel (fun w' v'=>At w' v' (fun _:Unit=>[.bool z44.area,.int .i64 z44.cols,v51_45_1]) () 0)) at_stab (fun w X=>?_) ?_
 skip
 exact have H:=H.ext X;d_idxC U179 Z182 rfl rfl (rc_45.at H.zin) c43.1 (hc_45 c43) hcs_45
 refine f_op [51] rfl rfl rfl rfl false (.eq (.agg #[.bool z44.area,.int .i64 z44.cols,v51_45_1])) trivial (fun w X=>?_) ?_
 intro v51 h51
 exact (v_loadAtA O3 rfl h51 isAgg182 Z182 rfl rfl).doesF
 refine fC hS rfl (fun y46 f46 w X=>have H:=H.ext X;dC call197 (funcs_single_ok f46 (r51_45_1.hz H.zin) :)) fun y46 hS=>?_
 refine fcps 1 rfl ?_
 obtain ⟨c47,hS⟩:=ck hS
 obtain ⟨z48,e48,hS⟩:=bv hS
 have q_49:=rp1.gel ⟨_,argEnc_dflt⟩ 0
 rw [←e48] at q_49
 obtain ⟨css_49,cl_49,rc_49,hc_49,v55_49_1,hcs_49,r55_49_1⟩:=q_49
 refine f_op [54] rfl rfl rfl rfl false (.rel (fun w' v'=>At w' v' (fun _:Unit=>[.bool z48.area,.int .i64 z48.cols,v55_49_1]) () 0)) at_stab (fun w X=>?_) ?_
 skip
 exact have H:=H.ext X;d_idxC U179 Z182 rfl rfl (rc_49.at H.zin) c47.1 (hc_49 c47) hcs_49
 refine f_op [55] rfl rfl rfl rfl false (.rel (fun w' v'=>At w' v' (fun _:Unit=>[.bool z48.area,.int .i64 z48.cols,v55_49_1]) () 2)) at_stab (fun w X=>?_) ?_
 intro v55 h55
 exact d_field rfl h55 U182 rfl Z63 rfl rfl
 refine f_op [56] rfl rfl rfl rfl false (.eq (v55_49_1)) trivial (fun w X=>?_) ?_
 intro v56 h56
 exact (v_loadAt1 rfl h56 isAgg63 rfl).doesF
 refine fC hS rfl (fun y50 f50 w X=>have H:=H.ext X;dC call218 (lists_CountIf_ok f50 (r55_49_1.hz H.zin) :)) fun y50 hS=>?_
 refine fE [4,58] O2 H fun a w X H h=>?_
 refine zS h H 0 Z26 O3 O3 [_] fun w H=>?_
 refine cz k ?_
 cases hS
 refine r1 hr h rfl (rvA H 0 A26 Z26 O3) ⟨rfl,H.out⟩
 refine rg fun K k=>sB h hS rfl (v_seq rfl rfl) fun z51 e51 hS a h=>cps 1 h rfl fun a h=>cN k h [0,1,4,9,59] O5 fun h=>?_
 refine cI h hS rfl (fun ec52 hS=>?_) fun ec52 hS=>?_
 refine flT 9 h fun K k=>?_
 refine fcps 1 rfl ?_
 obtain ⟨c53,hS⟩:=ck hS
 obtain ⟨z54,e54,hS⟩:=bv hS
 have q_55:=rp1.gel ⟨_,argEnc_dflt⟩ 1
 rw [←e54] at q_55
 obtain ⟨css_55,cl_55,rc_55,hc_55,v62_55_1,hcs_55,r62_55_1⟩:=q_55
 refine f_op [61] rfl rfl rfl rfl false (.rel (fun w' v'=>At w' v' (fun _:Unit=>[.bool z54.area,.int .i64 z54.cols,v62_55_1]) () 0)) at_stab (fun w X=>?_) ?_
 skip
 exact have H:=H.ext X;d_idxC U179 Z182 rfl rfl (rc_55.at H.zin) c53.1 (hc_55 c53) hcs_55
 refine f_op [62] rfl rfl rfl rfl false (.eq (.agg #[.bool z54.area,.int .i64 z54.cols,v62_55_1])) trivial (fun w X=>?_) ?_
 intro v62 h62
 exact (v_loadAtA O3 rfl h62 isAgg182 Z182 rfl rfl).doesF
 refine fC hS rfl (fun y56 f56 w X=>have H:=H.ext X;dC call197 (funcs_single_ok f56 (r62_55_1.hz H.zin) :)) fun y56 hS=>?_
 refine fcps 1 rfl ?_
 obtain ⟨c57,hS⟩:=ck hS
 obtain ⟨z58,e58,hS⟩:=bv hS
 have q_59:=rp1.gel ⟨_,argEnc_dflt⟩ 0
 rw [←e58] at q_59
 obtain ⟨css_59,cl_59,rc_59,hc_59,v66_59_1,hcs_59,r66_59_1⟩:=q_59
 refine f_op [65] rfl rfl rfl rfl false (.rel (fun w' v'=>At w' v' (fun _:Unit=>[.bool z58.area,.int .i64 z58.cols,v66_59_1]) () 0)) at_stab (fun w X=>?_) ?_
 skip
 exact have H:=H.ext X;d_idxC U179 Z182 rfl rfl (rc_59.at H.zin) c57.1 (hc_59 c57) hcs_59
 refine f_op [66] rfl rfl rfl rfl false (.rel (fun w' v'=>At w' v' (fun _:Unit=>[.bool z58.area,.int .i64 z58.cols,v66_59_1]) () 2)) at_stab (fun w X=>?_) ?_
 intro v66 h66
 exact d_field rfl h66 U182 rfl Z63 rfl rfl
 refine f_op [67] rfl rfl rfl rfl false (.eq (v66_59_1)) trivial (fun w X=>?_) ?_
 intro v67 h67
 exact (v_loadAt1 rfl h67 isAgg63 rfl).doesF
 refine fC hS rfl (fun y60 f60 w X=>have H:=H.ext X;dC call219 (lists_SumIf_ok f60 (r66_59_1.hz H.zin) :)) fun y60 hS=>?_
 refine fE [4,69] O2 H fun a w X H h=>?_
 refine zS h H 0 Z26 O3 O3 [_] fun w H=>?_
 refine cz k ?_
 cases hS
 refine r1 hr h rfl (rvA H 0 A26 Z26 O3) ⟨rfl,H.out⟩
 refine rg fun K k=>sB h hS rfl (v_seq rfl rfl) fun z61 e61 hS a h=>cps 1 h rfl fun a h=>cz k<|cI h hS rfl (fun ec62 hS=>?_) fun ec62 hS=>?_
 refine flT 9 h fun K k=>?_
 refine fcps 1 rfl ?_
 obtain ⟨c63,hS⟩:=ck hS
 obtain ⟨z64,e64,hS⟩:=bv hS
 have q_65:=rp1.gel ⟨_,argEnc_dflt⟩ 0
 rw [←e64] at q_65
 obtain ⟨css_65,cl_65,rc_65,hc_65,v73_65_1,hcs_65,r73_65_1⟩:=q_65
 refine f_op [72] rfl rfl rfl rfl false (.rel (fun w' v'=>At w' v' (fun _:Unit=>[.bool z64.area,.int .i64 z64.cols,v73_65_1]) () 0)) at_stab (fun w X=>?_) ?_
 skip
 exact have H:=H.ext X;d_idxC U179 Z182 rfl rfl (rc_65.at H.zin) c63.1 (hc_65 c63) hcs_65
 refine f_op [73] rfl rfl rfl rfl false (.rel (fun w' v'=>At w' v' (fun _:Unit=>[.bool z64.area,.int .i64 z64.cols,v73_65_1]) () 2)) at_stab (fun w X=>?_) ?_
 intro v73 h73
 exact d_field rfl h73 U182 rfl Z63 rfl rfl
 refine f_op [74] rfl rfl rfl rfl false (.eq (v73_65_1)) trivial (fun w X=>?_) ?_
 intro v74 h74
 exact (v_loadAt1 rfl h74 isAgg63 rfl).doesF
 refine fcps 1 rfl ?_
 obtain ⟨c66,hS⟩:=ck hS
 obtain ⟨z67,e67,hS⟩:=bv hS
 have q_68:=rp1.gel ⟨_,argEnc_dflt⟩ 1
 rw [←e67] at q_68
 obtain ⟨css_68,cl_68,rc_68,hc_68,v77_68_1,hcs_68,r77_68_1⟩:=q_68
 refine f_op [76] rfl rfl rfl rfl false (.rel (fun w' v'=>At w' v' (fun _:Unit=>[.bool z67.area,.int .i64 z67.cols,v77_68_1]) () 0)) at_stab (fun w X=>?_) ?_
 skip
 exact have H:=H.ext X;d_idxC U179 Z182 rfl rfl (rc_68.at H.zin) c66.1 (hc_68 c66) hcs_68
 refine f_op [77] rfl rfl rfl rfl false (.rel (fun w' v'=>At w' v' (fun _:Unit=>[.bool z67.area,.int .i64 z67.cols,v77_68_1]) () 2)) at_stab (fun w X=>?_) ?_
 intro v77 h77
 exact d_field rfl h77 U182 rfl Z63 rfl rfl
 refine f_op [78] rfl rfl rfl rfl false (.eq (v77_68_1)) trivial (fun w X=>?_) ?_
 intro v78 h78
 exact (v_loadAt1 rfl h78 isAgg63 rfl).doesF
 refine fC hS rfl (fun y69 f69 w X=>have H:=H.ext X;dC call220 (lists_SumProduct_ok f69 (r73_65_1.hz H.zin) (r77_68_1.hz H.zin) :)) fun y69 hS=>?_
 refine fE [4,80] O2 H fun a w X H h=>?_
 refine zS h H 0 Z26 O3 O3 [_] fun w H=>?_
 refine cz k ?_
 cases hS
 refine r1 hr h rfl (rvA H 0 A26 Z26 O3) ⟨rfl,H.out⟩
 refine rg fun K k=>sB h hS rfl (v_seq rfl rfl) fun z70 e70 hS a h=>cps 1 h rfl fun a h=>cN k h [0,1,4,9,81] O5 fun h=>?_
 refine cI h hS rfl (fun ec71 hS=>?_) fun ec71 hS=>?_
 refine flT 9 h fun K k=>?_
 refine fcps 1 rfl ?_
 obtain ⟨c72,hS⟩:=ck hS
 obtain ⟨z73,e73,hS⟩:=bv hS
 have q_74:=rp1.gel ⟨_,argEnc_dflt⟩ 0
 rw [←e73] at q_74
 obtain ⟨css_74,cl_74,rc_74,hc_74,v84_74_1,hcs_74,r84_74_1⟩:=q_74
 refine f_op [83] rfl rfl rfl rfl false (.rel (fun w' v'=>At w' v' (fun _:Unit=>[.bool z73.area,.int .i64 z73.cols,v84_74_1]) () 0)) at_stab (fun w X=>?_) ?_
 skip
 exact have H:=H.ext X;d_idxC U179 Z182 rfl rfl (rc_74.at H.zin) c72.1 (hc_74 c72) hcs_74
 refine f_op [84] rfl rfl rfl rfl false (.eq (.agg #[.bool z73.area,.int .i64 z73.cols,v84_74_1])) trivial (fun w X=>?_) ?_
 intro v84 h84
 exact (v_loadAtA O3 rfl h84 isAgg182 Z182 rfl rfl).doesF
 refine fC hS rfl (fun y75 f75 w X=>have H:=H.ext X;dC call197 (funcs_single_ok f75 (r84_74_1.hz H.zin) :)) fun y75 hS=>?_
 refine fcps 1 rfl ?_
 obtain ⟨c76,hS⟩:=ck hS
 obtain ⟨z77,e77,hS⟩:=bv hS
 have q_78:=rp1.gel ⟨_,argEnc_dflt⟩ 1
 rw [←e77] at q_78
 obtain ⟨css_78,cl_78,rc_78,hc_78,v88_78_1,hcs_78,r88_78_1⟩:=q_78
 refine f_op [87] rfl rfl rfl rfl false (.rel (fun w' v'=>At w' v' (fun _:Unit=>[.bool z77.area,.int .i64 z77.cols,v88_78_1]) () 0)) at_stab (fun w X=>?_) ?_
 skip
 exact have H:=H.ext X;d_idxC U179 Z182 rfl rfl (rc_78.at H.zin) c76.1 (hc_78 c76) hcs_78
 refine f_op [88] rfl rfl rfl rfl false (.rel (fun w' v'=>At w' v' (fun _:Unit=>[.bool z77.area,.int .i64 z77.cols,v88_78_1]) () 2)) at_stab (fun w X=>?_) ?_
 intro v88 h88
 exact d_field rfl h88 U182 rfl Z63 rfl rfl
 refine f_op [89] rfl rfl rfl rfl false (.eq (v88_78_1)) trivial (fun w X=>?_) ?_
 intro v89 h89
 exact (v_loadAt1 rfl h89 isAgg63 rfl).doesF
 refine fC hS rfl (fun y79 f79 w X=>have H:=H.ext X;dC call221 (lists_Match_ok f79 (r88_78_1.hz H.zin) :)) fun y79 hS=>?_
 refine fE [4,91] O2 H fun a w X H h=>?_
 refine zS h H 0 Z26 O3 O3 [_] fun w H=>?_
 refine cz k ?_
 cases hS
 refine r1 hr h rfl (rvA H 0 A26 Z26 O3) ⟨rfl,H.out⟩
 refine rg fun K k=>sB h hS rfl (v_seq rfl rfl) fun z80 e80 hS a h=>cps 1 h rfl fun a h=>cz k<|cI h hS rfl (fun ec81 hS=>?_) fun ec81 hS=>?_
 refine flT 15 h fun K k=>?_
 refine fcps 1 rfl ?_
 obtain ⟨c82,hS⟩:=ck hS
 obtain ⟨z83,e83,hS⟩:=bv hS
 have q_84:=rp1.gel ⟨_,argEnc_dflt⟩ 0
 rw [←e83] at q_84
 obtain ⟨css_84,cl_84,rc_84,hc_84,v95_84_1,hcs_84,r95_84_1⟩:=q_84
 refine f_op [94] rfl rfl rfl rfl false (.rel (fun w' v'=>At w' v' (fun _:Unit=>[.bool z83.area,.int .i64 z83.cols,v95_84_1]) () 0)) at_stab (fun w X=>?_) ?_
 skip
 exact have H:=H.ext X;d_idxC U179 Z182 rfl rfl (rc_84.at H.zin) c82.1 (hc_84 c82) hcs_84
 refine f_op [95] rfl rfl rfl rfl false (.rel (fun w' v'=>At w' v' (fun _:Unit=>[.bool z83.area,.int .i64 z83.cols,v95_84_1]) () 2)) at_stab (fun w X=>?_) ?_
 intro v95 h95
 exact d_field rfl h95 U182 rfl Z63 rfl rfl
 refine f_op [96] rfl rfl rfl rfl false (.eq (v95_84_1)) trivial (fun w X=>?_) ?_
 intro v96 h96
 exact (v_loadAt1 rfl h96 isAgg63 rfl).doesF
 refine F1 rfl (fun w X=>have H:=H.ext X;v_len U63 rfl (r95_84_1.at H.zin)) ?_
 refine fcps 1 rfl ?_
 obtain ⟨c85,hS⟩:=ck hS
 obtain ⟨z86,e86,hS⟩:=bv hS
 have q_87:=rp1.gel ⟨_,argEnc_dflt⟩ 0
 rw [←e86] at q_87
 obtain ⟨css_87,cl_87,rc_87,hc_87,v100_87_1,hcs_87,r100_87_1⟩:=q_87
 refine f_op [99] rfl rfl rfl rfl false (.rel (fun w' v'=>At w' v' (fun _:Unit=>[.bool z86.area,.int .i64 z86.cols,v100_87_1]) () 0)) at_stab (fun w X=>?_) ?_
 skip
 exact have H:=H.ext X;d_idxC U179 Z182 rfl rfl (rc_87.at H.zin) c85.1 (hc_87 c85) hcs_87
 refine f_op [100] rfl rfl rfl rfl false (.rel (fun w' v'=>At w' v' (fun _:Unit=>[.bool z86.area,.int .i64 z86.cols,v100_87_1]) () 1)) at_stab (fun w X=>?_) ?_
 intro v100 h100
 exact d_field rfl h100 U182 rfl Z3 rfl rfl
 refine f_op [101] rfl rfl rfl rfl false (.eq (.int .i64 z86.cols)) trivial (fun w X=>?_) ?_
 intro v101 h101
 exact (v_loadAt1 rfl h101 A3 rfl).doesF
 refine fI hS rfl (fun w X=>v_max U3 rfl rfl) fun z88 e88 hS=>?_
 obtain ⟨c89,hS⟩:=ck hS
 refine fI hS rfl (fun w X=>v_quow rfl rfl c89) fun z90 e90 hS=>?_
 refine fC hS rfl (fun y91 f91 w X=>dC call55 (num_Of_ok f91 :)) fun y91 hS=>?_
 refine fcps 2 rfl ?_
 refine fC hS rfl (fun y92 f92 w X=>dC call116 (value_Made_ok f92 :)) fun y92 hS=>?_
 refine fE [4,108] O2 H fun a w X H h=>?_
 refine zS h H 0 Z26 O3 O3 [_] fun w H=>?_
 refine cz k ?_
 cases hS
 refine r1 hr h rfl (rvA H 0 A26 Z26 O3) ⟨rfl,H.out⟩
 refine rg fun K k=>sB h hS rfl (v_seq rfl rfl) fun z93 e93 hS a h=>cps 1 h rfl fun a h=>cN k h [0,1,4,9,109] O5 fun h=>?_
 refine cI h hS rfl (fun ec94 hS=>?_) fun ec94 hS=>?_
 refine rg fun K k=>cps 1 h rfl fun a h=>?_
 obtain ⟨c95,hS⟩:=ck hS
 obtain ⟨z96,e96,hS⟩:=bv hS
 have q_97:=rp1.gel ⟨_,argEnc_dflt⟩ 0
 rw [←e96] at q_97
 obtain ⟨css_97,cl_97,rc_97,hc_97,v112_97_1,hcs_97,r112_97_1⟩:=q_97
 refine st_idxC h U179 Z182 rfl rfl (rc_97.at H.zin) c95.1 (hc_97 c95) hcs_97 rfl fun a v112 A112 h=>?_
 refine st_fieldAt h rfl A112 U182 rfl Z3 rfl rfl rfl fun a v113 A113 h=>?_
 refine s1 h rfl (v_loadAt1 rfl A113 A3 rfl) fun a h=>sC h H hS rfl (fun y98 f98=>dC call55 (num_Of_ok f98 :)) fun y98 hS w X H a h=>?_
 have A112:=At.ext A112 X
 have A113:=At.ext A113 X
 refine cps 2 h rfl fun a h=>sC h H hS rfl (fun y99 f99=>dC call116 (value_Made_ok f99 :)) fun y99 hS w X H a h=>?_
 have A112:=At.ext A112 X
 have A113:=At.ext A113 X
 refine zS h H 0 Z26 O3 O3 [_] fun w H=>?_
 refine cN k h [4] [_] fun h=>?_
 cases hS
 refine r1 hr h rfl (rvA H 0 A26 Z26 O3) ⟨rfl,H.out⟩
 refine rg fun K k=>sB h hS rfl (v_seq rfl rfl) fun z100 e100 hS a h=>cps 1 h rfl fun a h=>cz k<|cI h hS rfl (fun ec101 hS=>?_) fun ec101 hS=>?_
 refine rg fun K k=>sC h H hS rfl (fun y102 f102=>dC call21 (value_Fail_ok f102 :)) fun y102 hS w X H a h=>?_
 refine zS h H 0 Z26 O3 O3 [_] fun w H=>?_
 refine cN k h [4] [_] fun h=>?_
 cases hS
 refine r1 hr h rfl (rvA H 0 A26 Z26 O3) ⟨rfl,H.out⟩
 refine rg fun K k=>sB h hS rfl (v_seq rfl rfl) fun z103 e103 hS a h=>cps 1 h rfl fun a h=>cN k h [0,1,4,9,122] O5 fun h=>?_
 refine cI h hS rfl (fun ec104 hS=>?_) fun ec104 hS=>?_
 refine rg fun K k=>cps 1 h rfl fun a h=>?_
 obtain ⟨c105,hS⟩:=ck hS
 obtain ⟨z106,e106,hS⟩:=bv hS
 refine z_partN_l (E:=argEnc) h U179 Z182 rfl rfl rp1 c105 rfl fun a v126_107 r126_107 h=>?_
 rw [←e106] at r126_107
 obtain ⟨y108,f108,hS⟩:=bo hS
 refine st2 h rfl rfl rfl (dC call163 (funcs_nums_ok (x0:=z106) f108 (r126_107.hz H.zin))) ?_
 rintro v_ w ⟨v127_109_1,rfl,r127_109_1,X⟩ a h
 obtain ⟨Z,hsub,hadd,H⟩:=H.adopt' X
 have r126_107:=r126_107.sub hsub
 have rp1:=rp1.sub hsub
 have r127_109_1:=r127_109_1.sub (ZB.empty.trans hadd)
 refine cps 3 h rfl fun a h=>zA h H V26 O3 (fun x=>[_,x]) fun a p110 w X H h=>?_
 refine cps 1 h rfl fun a h=>zS h H 1 Z26 O3 O3 O2 fun w H=>?_
 refine cN k h [1,4,5,6] O4 fun h=>?_
 refine sq<|rg fun K k=>s1 h rfl (v_fieldAddr rfl U26 rfl Z3 rfl rfl) fun a h=>s1 h rfl (l1 H 1 A3) fun a h=>sB h hS rfl (v_eq rfl rfl) fun z112 e112 hS a h=>cz k<|cI h hS rfl (fun ec113 hS=>?_) fun ec113 hS=>?_
 refine rg fun K k=>s1 h rfl (lA H 1 A26 Z26 O3) fun a h=>zS h H 0 Z26 O3 O3 O2 fun w H=>?_
 refine cN k h [4] [_] fun h=>?_
 cases hS
 refine r1 hr h rfl (rvA H 0 A26 Z26 O3) ⟨rfl,H.out⟩
 refine c_skip<|cO h [1,4,5] O3 fun h=>?_
 refine flT 17 h fun K k=>?_
 refine fcps 1 rfl ?_
 obtain ⟨c114,hS⟩:=ck hS
 obtain ⟨z115,e115,hS⟩:=bv hS
 have q_116:=rp1.gel ⟨_,argEnc_dflt⟩ 0
 rw [←e115] at q_116
 obtain ⟨css_116,cl_116,rc_116,hc_116,v135_116_1,hcs_116,r135_116_1⟩:=q_116
 refine f_op [134] rfl rfl rfl rfl false (.rel (fun w' v'=>At w' v' (fun _:Unit=>[.bool z115.area,.int .i64 z115.cols,v135_116_1]) () 0)) at_stab (fun w X=>?_) ?_
 skip
 exact have H:=H.ext X;d_idxC U179 Z182 rfl rfl (rc_116.at H.zin) c114.1 (hc_116 c114) hcs_116
 refine f_op [135] rfl rfl rfl rfl false (.rel (fun w' v'=>At w' v' (fun _:Unit=>[.bool z115.area,.int .i64 z115.cols,v135_116_1]) () 1)) at_stab (fun w X=>?_) ?_
 intro v135 h135
 exact d_field rfl h135 U182 rfl Z3 rfl rfl
 refine f_op [136] rfl rfl rfl rfl false (.eq (.int .i64 z115.cols)) trivial (fun w X=>?_) ?_
 intro v136 h136
 exact (v_loadAt1 rfl h136 A3 rfl).doesF
 refine fcps 1 rfl ?_
 obtain ⟨c117,hS⟩:=ck hS
 obtain ⟨z118,e118,hS⟩:=bv hS
 refine f_op [138] rfl rfl rfl rfl false (.rel (fun w' v'=>At w' v' (eI .i64) z118 0)) at_stab (fun w X=>?_) ?_
 skip
 exact have H:=H.ext X;d_idx U231 Z2 rfl rfl (r127_109_1.at H.zin) (fun _=>rfl) z118 c117.1 (by rw [e118];exact gel_some c117)
 refine f_op [139] rfl rfl rfl rfl false (.eq (.int .i64 z118)) trivial (fun w X=>?_) ?_
 intro v139 h139
 exact (v_loadAt1 rfl h139 A2 rfl).doesF
 refine fI hS rfl (fun w X=>v_quow rfl rfl (by decide)) fun z119 e119 hS=>?_
 refine fcps 1 rfl ?_
 obtain ⟨c120,hS⟩:=ck hS
 obtain ⟨z121,e121,hS⟩:=bv hS
 refine f_op [142] rfl rfl rfl rfl false (.rel (fun w' v'=>At w' v' (eI .i64) z121 0)) at_stab (fun w X=>?_) ?_
 skip
 exact have H:=H.ext X;d_idx U231 Z2 rfl rfl (r127_109_1.at H.zin) (fun _=>rfl) z121 c120.1 (by rw [e121];exact gel_some c120)
 refine f_op [143] rfl rfl rfl rfl false (.eq (.int .i64 z121)) trivial (fun w X=>?_) ?_
 intro v143 h143
 exact (v_loadAt1 rfl h143 A2 rfl).doesF
 refine fI hS rfl (fun w X=>v_quow rfl rfl (by decide)) fun z122 e122 hS=>?_
 refine fcps 1 rfl ?_
 obtain ⟨c123,hS⟩:=ck hS
 obtain ⟨z124,e124,hS⟩:=bv hS
 have q_125:=rp1.gel ⟨_,argEnc_dflt⟩ 0
 rw [←e124] at q_125
 obtain ⟨css_125,cl_125,rc_125,hc_125,v147_125_1,hcs_125,r147_125_1⟩:=q_125
 refine f_op [146] rfl rfl rfl rfl false (.rel (fun w' v'=>At w' v' (fun _:Unit=>[.bool z124.area,.int .i64 z124.cols,v147_125_1]) () 0)) at_stab (fun w X=>?_) ?_
 skip
 exact have H:=H.ext X;d_idxC U179 Z182 rfl rfl (rc_125.at H.zin) c123.1 (hc_125 c123) hcs_125
 refine f_op [147] rfl rfl rfl rfl false (.rel (fun w' v'=>At w' v' (fun _:Unit=>[.bool z124.area,.int .i64 z124.cols,v147_125_1]) () 2)) at_stab (fun w X=>?_) ?_
 intro v147 h147
 exact d_field rfl h147 U182 rfl Z63 rfl rfl
 refine f_op [148] rfl rfl rfl rfl false (.eq (v147_125_1)) trivial (fun w X=>?_) ?_
 intro v148 h148
 exact (v_loadAt1 rfl h148 isAgg63 rfl).doesF
 refine fC hS rfl (fun y126 f126 w X=>have H:=H.ext X;dC call222 (lists_Index_ok f126 (r147_125_1.hz H.zin) :)) fun y126 hS=>?_
 refine fE [4,150] O2 H fun a w X H h=>?_
 refine zS h H 0 Z26 O3 O3 O2 fun w H=>?_
 refine cz k ?_
 cases hS
 refine r1 hr h rfl (rvA H 0 A26 Z26 O3) ⟨rfl,H.out⟩
 refine rg fun K k=>sB h hS rfl (v_seq rfl rfl) fun z127 e127 hS a h=>cps 1 h rfl fun a h=>cz k<|cI h hS rfl (fun ec128 hS=>?_) fun ec128 hS=>?_
 refine rg fun K k=>cps 1 h rfl fun a h=>?_
 obtain ⟨c129,hS⟩:=ck hS
 obtain ⟨z130,e130,hS⟩:=bv hS
 refine z_partN_l (E:=argEnc) h U179 Z182 rfl rfl rp1 c129 rfl fun a v155_131 r155_131 h=>?_
 rw [←e130] at r155_131
 obtain ⟨y132,f132,hS⟩:=bo hS
 refine st2 h rfl rfl rfl (dC call163 (funcs_nums_ok (x0:=z130) f132 (r155_131.hz H.zin))) ?_
 rintro v_ w ⟨v156_133_1,rfl,r156_133_1,X⟩ a h
 obtain ⟨Z,hsub,hadd,H⟩:=H.adopt' X
 have r155_131:=r155_131.sub hsub
 have rp1:=rp1.sub hsub
 have r156_133_1:=r156_133_1.sub (ZB.empty.trans hadd)
 refine cps 3 h rfl fun a h=>zA h H V26 O3 (fun x=>[_,x]) fun a p134 w X H h=>?_
 refine cps 1 h rfl fun a h=>zS h H 1 Z26 O3 O3 O2 fun w H=>?_
 refine cN k h [1,4,7,8] O4 fun h=>?_
 refine sq<|rg fun K k=>s1 h rfl (v_fieldAddr rfl U26 rfl Z3 rfl rfl) fun a h=>s1 h rfl (l1 H 1 A3) fun a h=>sB h hS rfl (v_eq rfl rfl) fun z136 e136 hS a h=>cz k<|cI h hS rfl (fun ec137 hS=>?_) fun ec137 hS=>?_
 refine rg fun K k=>s1 h rfl (lA H 1 A26 Z26 O3) fun a h=>zS h H 0 Z26 O3 O3 O2 fun w H=>?_
 refine cN k h [4] [_] fun h=>?_
 cases hS
 refine r1 hr h rfl (rvA H 0 A26 Z26 O3) ⟨rfl,H.out⟩
 refine c_skip<|cO h [1,4,7] O3 fun h=>?_
 refine flT 17 h fun K k=>?_
 refine fcps 1 rfl ?_
 obtain ⟨c138,hS⟩:=ck hS
 obtain ⟨z139,e139,hS⟩:=bv hS
 have q_140:=rp1.gel ⟨_,argEnc_dflt⟩ 0
 rw [←e139] at q_140
 obtain ⟨css_140,cl_140,rc_140,hc_140,v164_140_1,hcs_140,r164_140_1⟩:=q_140
 refine f_op [163] rfl rfl rfl rfl false (.rel (fun w' v'=>At w' v' (fun _:Unit=>[.bool z139.area,.int .i64 z139.cols,v164_140_1]) () 0)) at_stab (fun w X=>?_) ?_
 skip
 exact have H:=H.ext X;d_idxC U179 Z182 rfl rfl (rc_140.at H.zin) c138.1 (hc_140 c138) hcs_140
 refine f_op [164] rfl rfl rfl rfl false (.eq (.agg #[.bool z139.area,.int .i64 z139.cols,v164_140_1])) trivial (fun w X=>?_) ?_
 intro v164 h164
 exact (v_loadAtA O3 rfl h164 isAgg182 Z182 rfl rfl).doesF
 refine fC hS rfl (fun y141 f141 w X=>have H:=H.ext X;dC call197 (funcs_single_ok f141 (r164_140_1.hz H.zin) :)) fun y141 hS=>?_
 refine fcps 1 rfl ?_
 obtain ⟨c142,hS⟩:=ck hS
 obtain ⟨z143,e143,hS⟩:=bv hS
 have q_144:=rp1.gel ⟨_,argEnc_dflt⟩ 1
 rw [←e143] at q_144
 obtain ⟨css_144,cl_144,rc_144,hc_144,v168_144_1,hcs_144,r168_144_1⟩:=q_144
 refine f_op [167] rfl rfl rfl rfl false (.rel (fun w' v'=>At w' v' (fun _:Unit=>[.bool z143.area,.int .i64 z143.cols,v168_144_1]) () 0)) at_stab (fun w X=>?_) ?_
 skip
 exact have H:=H.ext X;d_idxC U179 Z182 rfl rfl (rc_144.at H.zin) c142.1 (hc_144 c142) hcs_144
 refine f_op [168] rfl rfl rfl rfl false (.rel (fun w' v'=>At w' v' (fun _:Unit=>[.bool z143.area,.int .i64 z143.cols,v168_144_1]) () 1)) at_stab (fun w X=>?_) ?_
 intro v168 h168
 exact d_field rfl h168 U182 rfl Z3 rfl rfl
 refine f_op [169] rfl rfl rfl rfl false (.eq (.int .i64 z143.cols)) trivial (fun w X=>?_) ?_
 intro v169 h169
 exact (v_loadAt1 rfl h169 A3 rfl).doesF
 refine fcps 1 rfl ?_
 obtain ⟨c145,hS⟩:=ck hS
 obtain ⟨z146,e146,hS⟩:=bv hS
 refine f_op [171] rfl rfl rfl rfl false (.rel (fun w' v'=>At w' v' (eI .i64) z146 0)) at_stab (fun w X=>?_) ?_
 skip
 exact have H:=H.ext X;d_idx U231 Z2 rfl rfl (r156_133_1.at H.zin) (fun _=>rfl) z146 c145.1 (by rw [e146];exact gel_some c145)
 refine f_op [172] rfl rfl rfl rfl false (.eq (.int .i64 z146)) trivial (fun w X=>?_) ?_
 intro v172 h172
 exact (v_loadAt1 rfl h172 A2 rfl).doesF
 refine fI hS rfl (fun w X=>v_quow rfl rfl (by decide)) fun z147 e147 hS=>?_
 refine fcps 1 rfl ?_
 obtain ⟨c148,hS⟩:=ck hS
 obtain ⟨z149,e149,hS⟩:=bv hS
 have q_150:=rp1.gel ⟨_,argEnc_dflt⟩ 1
 rw [←e149] at q_150
 obtain ⟨css_150,cl_150,rc_150,hc_150,v176_150_1,hcs_150,r176_150_1⟩:=q_150
 refine f_op [175] rfl rfl rfl rfl false (.rel (fun w' v'=>At w' v' (fun _:Unit=>[.bool z149.area,.int .i64 z149.cols,v176_150_1]) () 0)) at_stab (fun w X=>?_) ?_
 skip
 exact have H:=H.ext X;d_idxC U179 Z182 rfl rfl (rc_150.at H.zin) c148.1 (hc_150 c148) hcs_150
 refine f_op [176] rfl rfl rfl rfl false (.rel (fun w' v'=>At w' v' (fun _:Unit=>[.bool z149.area,.int .i64 z149.cols,v176_150_1]) () 2)) at_stab (fun w X=>?_) ?_
 intro v176 h176
 exact d_field rfl h176 U182 rfl Z63 rfl rfl
 refine f_op [177] rfl rfl rfl rfl false (.eq (v176_150_1)) trivial (fun w X=>?_) ?_
 intro v177 h177
 exact (v_loadAt1 rfl h177 isAgg63 rfl).doesF
 refine fC hS rfl (fun y151 f151 w X=>have H:=H.ext X;dC call223 (lists_VLookup_ok f151 (r176_150_1.hz H.zin) :)) fun y151 hS=>?_
 refine fE [4,179] O2 H fun a w X H h=>?_
 refine zS h H 0 Z26 O3 O3 O2 fun w H=>?_
 refine cz k ?_
 cases hS
 refine r1 hr h rfl (rvA H 0 A26 Z26 O3) ⟨rfl,H.out⟩
 refine c_skip<|cO h [0,1,4] O3 fun h=>?_
 refine rg fun K k=>cps 2 h rfl fun a h=>?_
 obtain ⟨c152,hS⟩:=ck hS
 obtain ⟨z153,e153,hS⟩:=bv hS
 have q_154:=rp1.gel ⟨_,argEnc_dflt⟩ 0
 rw [←e153] at q_154
 obtain ⟨css_154,cl_154,rc_154,hc_154,v182_154_1,hcs_154,r182_154_1⟩:=q_154
 refine st_idxC h U179 Z182 rfl rfl (rc_154.at H.zin) c152.1 (hc_154 c152) hcs_154 rfl fun a v182 A182 h=>?_
 refine s1 h rfl (v_loadAtA O3 rfl A182 isAgg182 Z182 rfl rfl) fun a h=>sC h H hS rfl (fun y155 f155=>dC call197 (funcs_single_ok f155 (r182_154_1.hz H.zin) :)) fun y155 hS w X H a h=>?_
 have A182:=At.ext A182 X
 refine sC h H hS rfl (fun y156 f156=>dC call224 (funcs_kind_ok f156 :)) fun y156 hS w X H a h=>?_
 have A182:=At.ext A182 X
 refine zS h H 0 Z26 O3 O3 [_] fun w H=>?_
 refine cN k h [4] [_] fun h=>?_
 cases hS
 refine r1 hr h rfl (rvA H 0 A26 Z26 O3) ⟨rfl,H.out⟩
 refine rg fun K k=>sB h hS rfl (v_seq rfl rfl) fun z157 e157 hS a h=>cps 1 h rfl fun a h=>cz k<|cI h hS rfl (fun ec158 hS=>?_) fun ec158 hS=>?_
 exact c_skip (ex2 ⟨hS,h.to,H,rp1⟩)
 refine c_lregion<|sB h hS rfl (v_seq rfl rfl) fun z159 e159 hS a h=>cps 1 h rfl fun a h=>c_lnil ?_
 exact ex2 ⟨hS,h.to,H,rp1⟩
theorem funcs_Apply_ok {x0:Int} {x1:List (Arg)} {res:V} {w0:World} (hS:funcs_Apply x0 x1=some res) {xv1:Value} (rp1:RdN (hz w0) xv1 argEnc x1) (hG:GW w0):Calls Tryz.prog 123 [.int .i64 x0,xv1].toArray w0 (Ret fun v w=>v=.agg #[.int .i64 res.k,.int .i64 res.n,S res.s]∧Ext w0 w):=by
 refine en func123 [0,1] O2 fun Q a Zi Z hzs H h hr=>?_
 have rp1:=rp1.sub hzs
 clear hzs
 unfold funcs_Apply at hS
 refine rg fun K k=>zA h H V26 O3 (fun x=>[x]) fun a p1 w X H h=>?_
 refine cz k<|rg fun K k=>cps 1 h rfl fun a h=>sC h H hS rfl (fun y2 f2=>dC call79 (tree_Name_ok f2 (hG.ext H.out) :)) fun y2 hS w X H a h=>?_
 refine cps 1 h rfl fun a h=>cz k<|sq<|rg fun K k=>cps 2 h rfl fun a h=>s1 h rfl (v_lenN U179 rfl rp1 H.zin) fun a h=>sC h H hS rfl (fun y4 f4=>dC call49 (tree_Fits_ok f4 (hG.ext H.out) :)) fun y4 hS w X H a h=>?_
 refine sB h hS rfl (v_not rfl) fun z5 e5 hS a h=>cN k h [1,4,5,19] O4 fun h=>?_
 refine cI h hS rfl (fun ec6 hS=>?_) fun ec6 hS=>?_
 refine rg fun K k=>sC h H hS rfl (fun y7 f7=>dC call21 (value_Fail_ok f7 :)) fun y7 hS w X H a h=>?_
 refine zS h H 0 Z26 O3 O3 [_] fun w H=>?_
 refine cN k h [4] [_] fun h=>?_
 cases hS
 refine r1 hr h rfl (rvA H 0 A26 Z26 O3) ⟨rfl,H.out⟩
 refine c_skip<|sq<|rg fun K k=>cps 1 h rfl fun a h=>cz k<|lb ?_
 obtain ⟨J11,eJ11,hS⟩:=bv hS
 refine sqJ (fun a w=>∃ (Z:FZ) (s11:Bool),J11 s11=some res∧Fr 129 [(1,xv1),(4,(pt p1)),(5,S y2),(21,S y2),(22,.bool s11)] a∧HZ w0 Zi Z [.blk p1 (Cel [.int .i64 0,.int .i64 0,S []] 26)] w∧RdN Z xv1 argEnc x1) ?_ ?_
 rintro a w ⟨Z,s11,hS,h,H,rp1⟩
 subst eJ11
 refine cI h hS rfl (fun ec12 hS=>?_) fun ec12 hS=>?_
 refine rg fun K k=>cps 1 h rfl fun a h=>?_
 obtain ⟨y13,f13,hS⟩:=bo hS
 refine st2 h rfl rfl rfl (dC call163 (funcs_nums_ok (x0:=x1) f13 (rp1.hz H.zin))) ?_
 rintro v_ w ⟨v38_14_1,rfl,r38_14_1,X⟩ a h
 obtain ⟨Z,hsub,hadd,H⟩:=H.adopt' X
 have rp1:=rp1.sub hsub
 have r38_14_1:=r38_14_1.sub (ZB.empty.trans hadd)
 refine cps 3 h rfl fun a h=>zA h H V26 O3 (fun x=>[_,x]) fun a p15 w X H h=>?_
 refine cps 1 h rfl fun a h=>zS h H 1 Z26 O3 O3 O2 fun w H=>?_
 refine cN k h [4,5,6,7] O4 fun h=>?_
 refine sq<|rg fun K k=>s1 h rfl (v_fieldAddr rfl U26 rfl Z3 rfl rfl) fun a h=>s1 h rfl (l1 H 1 A3) fun a h=>sB h hS rfl (v_eq rfl rfl) fun z17 e17 hS a h=>cz k<|cI h hS rfl (fun ec18 hS=>?_) fun ec18 hS=>?_
 refine rg fun K k=>s1 h rfl (lA H 1 A26 Z26 O3) fun a h=>zS h H 0 Z26 O3 O3 O2 fun w H=>?_
 refine cN k h [4] [_] fun h=>?_
 cases hS
 refine r1 hr h rfl (rvA H 0 A26 Z26 O3) ⟨rfl,H.out⟩
 refine c_skip<|cO h [4,5,6] O3 fun h=>?_
 refine sq<|rg fun K k=>cps 1 h rfl fun a h=>s1 h rfl (v_len U231 rfl (r38_14_1.at H.zin)) fun a h=>sB h hS rfl (v_eq rfl rfl) fun z20 e20 hS a h=>cz k<|cI h hS rfl (fun ec21 hS=>?_) fun ec21 hS=>?_
 refine rg fun K k=>cps 2 h rfl fun a h=>?_
 obtain ⟨c22,hS⟩:=ck hS
 obtain ⟨z23,e23,hS⟩:=bv hS
 refine st_idx h U231 Z2 rfl rfl (r38_14_1.at H.zin) (fun _=>rfl) z23 c22.1 (by rw [e23];exact gel_some c22) rfl fun a v50 A50 h=>?_
 refine s1 h rfl (v_loadAt1 rfl A50 A2 rfl) fun a h=>sC h H hS rfl (fun y24 f24=>dC call164 (maths_One_ok f24 :)) fun y24 hS w X H a h=>?_
 have A50:=At.ext A50 X
 refine zS h H 0 Z26 O3 O3 O2 fun w H=>?_
 refine cN k h [4] [_] fun h=>?_
 cases hS
 refine r1 hr h rfl (rvA H 0 A26 Z26 O3) ⟨rfl,H.out⟩
 refine c_skip<|flT 8 h fun K k=>?_
 refine fcps 2 rfl ?_
 obtain ⟨c25,hS⟩:=ck hS
 obtain ⟨z26,e26,hS⟩:=bv hS
 refine f_op [54] rfl rfl rfl rfl false (.rel (fun w' v'=>At w' v' (eI .i64) z26 0)) at_stab (fun w X=>?_) ?_
 skip
 exact have H:=H.ext X;d_idx U231 Z2 rfl rfl (r38_14_1.at H.zin) (fun _=>rfl) z26 c25.1 (by rw [e26];exact gel_some c25)
 refine f_op [55] rfl rfl rfl rfl false (.eq (.int .i64 z26)) trivial (fun w X=>?_) ?_
 intro v55 h55
 exact (v_loadAt1 rfl h55 A2 rfl).doesF
 refine fcps 1 rfl ?_
 obtain ⟨c27,hS⟩:=ck hS
 obtain ⟨z28,e28,hS⟩:=bv hS
 refine f_op [57] rfl rfl rfl rfl false (.rel (fun w' v'=>At w' v' (eI .i64) z28 0)) at_stab (fun w X=>?_) ?_
 skip
 exact have H:=H.ext X;d_idx U231 Z2 rfl rfl (r38_14_1.at H.zin) (fun _=>rfl) z28 c27.1 (by rw [e28];exact gel_some c27)
 refine f_op [58] rfl rfl rfl rfl false (.eq (.int .i64 z28)) trivial (fun w X=>?_) ?_
 intro v58 h58
 exact (v_loadAt1 rfl h58 A2 rfl).doesF
 refine fC hS rfl (fun y29 f29 w X=>dC call165 (maths_Two_ok f29 :)) fun y29 hS=>?_
 refine fE [4,60] O2 H fun a w X H h=>?_
 refine zS h H 0 Z26 O3 O3 O2 fun w H=>?_
 refine cz k ?_
 cases hS
 refine r1 hr h rfl (rvA H 0 A26 Z26 O3) ⟨rfl,H.out⟩
 obtain ⟨J31,eJ31,hS⟩:=bv hS
 refine sqJ (fun a w=>∃ (Z:FZ) (s31:Bool),J31 s31=some res∧Fr 129 [(1,xv1),(4,(pt p1)),(5,S y2),(21,S y2),(61,.bool s31)] a∧HZ w0 Zi Z [.blk p1 (Cel [.int .i64 0,.int .i64 0,S []] 26)] w∧RdN Z xv1 argEnc x1) ?_ ?_
 rintro a w ⟨Z,s31,hS,h,H,rp1⟩
 subst eJ31
 refine cI h hS rfl (fun ec32 hS=>?_) fun ec32 hS=>?_
 refine rg fun K k=>cps 1 h rfl fun a h=>?_
 obtain ⟨y33,f33,hS⟩:=bo hS
 refine st2 h rfl rfl rfl (dC call166 (funcs_strs_ok (x0:=x1) f33 (rp1.hz H.zin) (hG.ext H.out))) ?_
 rintro v_ w ⟨v73_34_1,rfl,r73_34_1,X⟩ a h
 obtain ⟨Z,hsub,hadd,H⟩:=H.adopt' X
 have rp1:=rp1.sub hsub
 have r73_34_1:=r73_34_1.sub (ZB.empty.trans hadd)
 refine cps 3 h rfl fun a h=>zA h H V26 O3 (fun x=>[_,x]) fun a p35 w X H h=>?_
 refine cps 1 h rfl fun a h=>zS h H 1 Z26 O3 O3 O2 fun w H=>?_
 refine cN k h [4,5,8,9] O4 fun h=>?_
 refine sq<|rg fun K k=>s1 h rfl (v_fieldAddr rfl U26 rfl Z3 rfl rfl) fun a h=>s1 h rfl (l1 H 1 A3) fun a h=>sB h hS rfl (v_eq rfl rfl) fun z37 e37 hS a h=>cz k<|cI h hS rfl (fun ec38 hS=>?_) fun ec38 hS=>?_
 refine rg fun K k=>s1 h rfl (lA H 1 A26 Z26 O3) fun a h=>zS h H 0 Z26 O3 O3 O2 fun w H=>?_
 refine cN k h [4] [_] fun h=>?_
 cases hS
 refine r1 hr h rfl (rvA H 0 A26 Z26 O3) ⟨rfl,H.out⟩
 refine c_skip<|cO h [4,5,8] O3 fun h=>?_
 refine sq<|rg fun K k=>cps 1 h rfl fun a h=>s1 h rfl (v_len U116 rfl (r73_34_1.at H.zin)) fun a h=>sB h hS rfl (v_eq rfl rfl) fun z40 e40 hS a h=>cps 1 h rfl fun a h=>st_g h rfl rfl (gT rfl) rfl rfl (fun e0=>v_move rfl) fun a h=>?_
 obtain ⟨z41,e41,hS⟩:=bv hS
 refine st_g h rfl rfl (gT rfl) rfl rfl (fun e0=>vB e41 (v_sne (eg e0 rfl) rfl)) fun a h=>?_
 refine sB h hS rfl (v_and rfl rfl) fun z42 e42 hS a h=>cN k h [4,5,8,86] O4 fun h=>?_
 refine cI h hS rfl (fun ec43 hS=>?_) fun ec43 hS=>?_
 refine rg fun K k=>cps 2 h rfl fun a h=>?_
 obtain ⟨c44,hS⟩:=ck hS
 obtain ⟨z45,e45,hS⟩:=bv hS
 refine st_idx h U116 Z9 rfl rfl (r73_34_1.at H.zin) (fun _=>rfl) z45 c44.1 (by rw [e45];exact gel_some c44) rfl fun a v89 A89 h=>?_
 refine s1 h rfl (v_loadAt1 rfl A89 A9 rfl) fun a h=>sC h H hS rfl (fun y46 f46=>dC call167 (texts_One_ok f46 :)) fun y46 hS w X H a h=>?_
 have A89:=At.ext A89 X
 refine zS h H 0 Z26 O3 O3 O2 fun w H=>?_
 refine cN k h [4] [_] fun h=>?_
 cases hS
 refine r1 hr h rfl (rvA H 0 A26 Z26 O3) ⟨rfl,H.out⟩
 refine c_skip<|rg fun K k=>cps 2 h rfl fun a h=>sC h H hS rfl (fun y47 f47=>dC call168 (texts_More_ok f47 (r73_34_1.hz H.zin) (hG.ext H.out) :)) fun y47 hS w X H a h=>?_
 refine zS h H 0 Z26 O3 O3 O2 fun w H=>?_
 refine cN k h [4] [_] fun h=>?_
 cases hS
 refine r1 hr h rfl (rvA H 0 A26 Z26 O3) ⟨rfl,H.out⟩
 obtain ⟨J49,eJ49,hS⟩:=bv hS
 refine sqJ (fun a w=>∃ (Z:FZ) (s49:Bool),J49 s49=some res∧Fr 129 [(1,xv1),(4,(pt p1)),(5,S y2),(95,.bool s49)] a∧HZ w0 Zi Z [.blk p1 (Cel [.int .i64 0,.int .i64 0,S []] 26)] w∧RdN Z xv1 argEnc x1) ?_ ?_
 rintro a w ⟨Z,s49,hS,h,H,rp1⟩
 subst eJ49
 refine cI h hS rfl (fun ec50 hS=>?_) fun ec50 hS=>?_
 refine rg fun K k=>cps 1 h rfl fun a h=>?_
 obtain ⟨c51,hS⟩:=ck hS
 obtain ⟨z52,e52,hS⟩:=bv hS
 refine z_partN_h (E:=argEnc) h U179 Z182 rfl rfl rp1 c51 rfl fun a v102_53 r102_53 h=>?_
 rw [←e52] at r102_53
 obtain ⟨y54,f54,hS⟩:=bo hS
 refine st2 h rfl rfl rfl (dC call166 (funcs_strs_ok (x0:=z52) f54 (r102_53.hz H.zin) (hG.ext H.out))) ?_
 rintro v_ w ⟨v103_55_1,rfl,r103_55_1,X⟩ a h
 obtain ⟨Z,hsub,hadd,H⟩:=H.adopt' X
 have r102_53:=r102_53.sub hsub
 have rp1:=rp1.sub hsub
 have r103_55_1:=r103_55_1.sub (ZB.empty.trans hadd)
 refine cps 3 h rfl fun a h=>zA h H V26 O3 (fun x=>[_,x]) fun a p56 w X H h=>?_
 refine cps 1 h rfl fun a h=>zS h H 1 Z26 O3 O3 O2 fun w H=>?_
 refine cN k h [1,4,5,10,11] O5 fun h=>?_
 refine sq<|rg fun K k=>s1 h rfl (v_fieldAddr rfl U26 rfl Z3 rfl rfl) fun a h=>s1 h rfl (l1 H 1 A3) fun a h=>sB h hS rfl (v_eq rfl rfl) fun z58 e58 hS a h=>cz k<|cI h hS rfl (fun ec59 hS=>?_) fun ec59 hS=>?_
 refine rg fun K k=>s1 h rfl (lA H 1 A26 Z26 O3) fun a h=>zS h H 0 Z26 O3 O3 O2 fun w H=>?_
 refine cN k h [4] [_] fun h=>?_
 cases hS
 refine r1 hr h rfl (rvA H 0 A26 Z26 O3) ⟨rfl,H.out⟩
 refine c_skip<|rg fun K k=>cps 1 h rfl fun a h=>?_
 obtain ⟨c60,hS⟩:=ck hS
 obtain ⟨z61,e61,hS⟩:=bv hS
 refine z_partN_l (E:=argEnc) h U179 Z182 rfl rfl rp1 c60 rfl fun a v112_62 r112_62 h=>?_
 rw [←e61] at r112_62
 obtain ⟨y63,f63,hS⟩:=bo hS
 refine st2 h rfl rfl rfl (dC call163 (funcs_nums_ok (x0:=z61) f63 (r112_62.hz H.zin))) ?_
 rintro v_ w ⟨v113_64_1,rfl,r113_64_1,X⟩ a h
 obtain ⟨Z,hsub,hadd,H⟩:=H.adopt' X
 have r103_55_1:=r103_55_1.sub hsub
 have r112_62:=r112_62.sub hsub
 have rp1:=rp1.sub hsub
 have r113_64_1:=r113_64_1.sub (ZB.empty.trans hadd)
 refine cps 4 h rfl fun a h=>zS h H 1 Z26 O3 O3 O2 fun w H=>?_
 refine cN k h [4,5,10,11,12] O5 fun h=>?_
 refine sq<|rg fun K k=>s1 h rfl (v_fieldAddr rfl U26 rfl Z3 rfl rfl) fun a h=>s1 h rfl (l1 H 1 A3) fun a h=>sB h hS rfl (v_eq rfl rfl) fun z66 e66 hS a h=>cz k<|cI h hS rfl (fun ec67 hS=>?_) fun ec67 hS=>?_
 refine rg fun K k=>s1 h rfl (lA H 1 A26 Z26 O3) fun a h=>zS h H 0 Z26 O3 O3 O2 fun w H=>?_
 refine cN k h [4] [_] fun h=>?_
 cases hS
 refine r1 hr h rfl (rvA H 0 A26 Z26 O3) ⟨rfl,H.out⟩
 refine c_skip<|cO h [4,5,10,12] O4 fun h=>?_
 refine rg fun K k=>cps 2 h rfl fun a h=>?_
 obtain ⟨c68,hS⟩:=ck hS
 obtain ⟨z69,e69,hS⟩:=bv hS
 refine st_idx h U116 Z9 rfl rfl (r103_55_1.at H.zin) (fun _=>rfl) z69 c68.1 (by rw [e69];exact gel_some c68) rfl fun a v122 A122 h=>?_
 refine s1 h rfl (v_loadAt1 rfl A122 A9 rfl) fun a h=>cps 1 h rfl fun a h=>sC h H hS rfl (fun y70 f70=>dC call169 (texts_Part_ok f70 (r113_64_1.hz H.zin) :)) fun y70 hS w X H a h=>?_
 have A122:=At.ext A122 X
 refine zS h H 0 Z26 O3 O3 O2 fun w H=>?_
 refine cN k h [4] [_] fun h=>?_
 cases hS
 refine r1 hr h rfl (rvA H 0 A26 Z26 O3) ⟨rfl,H.out⟩
 refine c_skip<|rg fun K k=>cps 2 h rfl fun a h=>sC h H hS rfl (fun y71 f71=>dC call170 (funcs_list_ok f71 (rp1.hz H.zin) :)) fun y71 hS w X H a h=>?_
 refine zS h H 0 Z26 O3 O3 [_] fun w H=>?_
 refine cN k h [4] [_] fun h=>?_
 cases hS
 refine r1 hr h rfl (rvA H 0 A26 Z26 O3) ⟨rfl,H.out⟩
 refine rg fun K k=>sB h hS rfl (v_seq rfl rfl) fun z72 e72 hS a h=>cps 1 h rfl fun a h=>cz k<|cI h hS rfl (fun ec73 hS=>?_) fun ec73 hS=>?_
 exact c_skip (ex2 ⟨hS,h.to,H,rp1⟩)
 refine rg fun K k=>sB h hS rfl (v_seq rfl rfl) fun z74 e74 hS a h=>cps 1 h rfl fun a h=>cz k<|cI h hS rfl (fun ec75 hS=>?_) fun ec75 hS=>?_
 exact c_skip (ex2 ⟨hS,h.to,H,rp1⟩)
 refine rg fun K k=>sB h hS rfl (v_seq rfl rfl) fun z76 e76 hS a h=>cps 1 h rfl fun a h=>cN k h [1,4,5,21,95] O5 fun h=>?_
 refine cI h hS rfl (fun ec77 hS=>?_) fun ec77 hS=>?_
 exact c_skip (ex2 ⟨hS,h.to,H,rp1⟩)
 refine c_lregion<|sB h hS rfl (v_seq rfl rfl) fun z78 e78 hS a h=>cps 1 h rfl fun a h=>c_lnil ?_
 exact ex2 ⟨hS,h.to,H,rp1⟩
 refine rg fun K k=>sB h hS rfl (v_seq rfl rfl) fun z79 e79 hS a h=>cps 1 h rfl fun a h=>cz k<|cI h hS rfl (fun ec80 hS=>?_) fun ec80 hS=>?_
 exact c_skip (ex2 ⟨hS,h.to,H,rp1⟩)
 refine rg fun K k=>sB h hS rfl (v_seq rfl rfl) fun z81 e81 hS a h=>cps 1 h rfl fun a h=>cz k<|cI h hS rfl (fun ec82 hS=>?_) fun ec82 hS=>?_
 exact c_skip (ex2 ⟨hS,h.to,H,rp1⟩)
 refine rg fun K k=>sB h hS rfl (v_seq rfl rfl) fun z83 e83 hS a h=>cps 1 h rfl fun a h=>cN k h [1,4,5,21,61] O5 fun h=>?_
 refine cI h hS rfl (fun ec84 hS=>?_) fun ec84 hS=>?_
 exact c_skip (ex2 ⟨hS,h.to,H,rp1⟩)
 refine rg fun K k=>sB h hS rfl (v_seq rfl rfl) fun z85 e85 hS a h=>cps 1 h rfl fun a h=>cz k<|cI h hS rfl (fun ec86 hS=>?_) fun ec86 hS=>?_
 exact c_skip (ex2 ⟨hS,h.to,H,rp1⟩)
 refine rg fun K k=>sB h hS rfl (v_seq rfl rfl) fun z87 e87 hS a h=>cps 1 h rfl fun a h=>cz k<|cI h hS rfl (fun ec88 hS=>?_) fun ec88 hS=>?_
 exact c_skip (ex2 ⟨hS,h.to,H,rp1⟩)
 refine rg fun K k=>sB h hS rfl (v_seq rfl rfl) fun z89 e89 hS a h=>cps 1 h rfl fun a h=>cz k<|cI h hS rfl (fun ec90 hS=>?_) fun ec90 hS=>?_
 exact c_skip (ex2 ⟨hS,h.to,H,rp1⟩)
 refine rg fun K k=>sB h hS rfl (v_seq rfl rfl) fun z91 e91 hS a h=>cps 1 h rfl fun a h=>cN k h [1,4,5,21,61] O5 fun h=>?_
 refine cI h hS rfl (fun ec92 hS=>?_) fun ec92 hS=>?_
 exact c_skip (ex2 ⟨hS,h.to,H,rp1⟩)
 refine rg fun K k=>sB h hS rfl (v_seq rfl rfl) fun z93 e93 hS a h=>cps 1 h rfl fun a h=>cz k<|cI h hS rfl (fun ec94 hS=>?_) fun ec94 hS=>?_
 exact c_skip (ex2 ⟨hS,h.to,H,rp1⟩)
 refine c_lregion<|sB h hS rfl (v_seq rfl rfl) fun z95 e95 hS a h=>cps 1 h rfl fun a h=>c_lnil ?_
 exact ex2 ⟨hS,h.to,H,rp1⟩
 refine rg fun K k=>sB h hS rfl (v_seq rfl rfl) fun z96 e96 hS a h=>cps 1 h rfl fun a h=>cz k<|cI h hS rfl (fun ec97 hS=>?_) fun ec97 hS=>?_
 exact c_skip (ex2 ⟨hS,h.to,H,rp1⟩)
 refine rg fun K k=>sB h hS rfl (v_seq rfl rfl) fun z98 e98 hS a h=>cps 1 h rfl fun a h=>cz k<|cI h hS rfl (fun ec99 hS=>?_) fun ec99 hS=>?_
 exact c_skip (ex2 ⟨hS,h.to,H,rp1⟩)
 refine rg fun K k=>sB h hS rfl (v_seq rfl rfl) fun z100 e100 hS a h=>cps 1 h rfl fun a h=>cN k h [1,4,5,21,22] O5 fun h=>?_
 refine cI h hS rfl (fun ec101 hS=>?_) fun ec101 hS=>?_
 exact c_skip (ex2 ⟨hS,h.to,H,rp1⟩)
 refine rg fun K k=>sB h hS rfl (v_seq rfl rfl) fun z102 e102 hS a h=>cps 1 h rfl fun a h=>cz k<|cI h hS rfl (fun ec103 hS=>?_) fun ec103 hS=>?_
 exact c_skip (ex2 ⟨hS,h.to,H,rp1⟩)
 refine rg fun K k=>sB h hS rfl (v_seq rfl rfl) fun z104 e104 hS a h=>cps 1 h rfl fun a h=>cz k<|cI h hS rfl (fun ec105 hS=>?_) fun ec105 hS=>?_
 exact c_skip (ex2 ⟨hS,h.to,H,rp1⟩)
 refine rg fun K k=>sB h hS rfl (v_seq rfl rfl) fun z106 e106 hS a h=>cps 1 h rfl fun a h=>cz k<|cI h hS rfl (fun ec107 hS=>?_) fun ec107 hS=>?_
 exact c_skip (ex2 ⟨hS,h.to,H,rp1⟩)
 refine rg fun K k=>sB h hS rfl (v_seq rfl rfl) fun z108 e108 hS a h=>cps 1 h rfl fun a h=>cN k h [1,4,5,21,22] O5 fun h=>?_
 refine cI h hS rfl (fun ec109 hS=>?_) fun ec109 hS=>?_
 exact c_skip (ex2 ⟨hS,h.to,H,rp1⟩)
 refine rg fun K k=>sB h hS rfl (v_seq rfl rfl) fun z110 e110 hS a h=>cps 1 h rfl fun a h=>cz k<|cI h hS rfl (fun ec111 hS=>?_) fun ec111 hS=>?_
 exact c_skip (ex2 ⟨hS,h.to,H,rp1⟩)
 refine rg fun K k=>sB h hS rfl (v_seq rfl rfl) fun z112 e112 hS a h=>cps 1 h rfl fun a h=>cz k<|cI h hS rfl (fun ec113 hS=>?_) fun ec113 hS=>?_
 exact c_skip (ex2 ⟨hS,h.to,H,rp1⟩)
 refine rg fun K k=>sB h hS rfl (v_seq rfl rfl) fun z114 e114 hS a h=>cps 1 h rfl fun a h=>cz k<|cI h hS rfl (fun ec115 hS=>?_) fun ec115 hS=>?_
 exact c_skip (ex2 ⟨hS,h.to,H,rp1⟩)
 refine rg fun K k=>sB h hS rfl (v_seq rfl rfl) fun z116 e116 hS a h=>cps 1 h rfl fun a h=>cN k h [1,4,5,21,22] O5 fun h=>?_
 refine cI h hS rfl (fun ec117 hS=>?_) fun ec117 hS=>?_
 exact c_skip (ex2 ⟨hS,h.to,H,rp1⟩)
 refine rg fun K k=>sB h hS rfl (v_seq rfl rfl) fun z118 e118 hS a h=>cps 1 h rfl fun a h=>cz k<|cI h hS rfl (fun ec119 hS=>?_) fun ec119 hS=>?_
 exact c_skip (ex2 ⟨hS,h.to,H,rp1⟩)
 refine c_lregion<|sB h hS rfl (v_seq rfl rfl) fun z120 e120 hS a h=>cps 1 h rfl fun a h=>c_lnil ?_
 exact ex2 ⟨hS,h.to,H,rp1⟩
theorem funcs_Binary_ok {x0:Int} {x1:V} {x2:V} {res:V} {w0:World} (hS:funcs_Binary x0 x1 x2=some res) (hG:GW w0):Calls Tryz.prog 88 [.int .i64 x0,(vA x1),(vA x2)].toArray w0 (Ret fun v w=>v=.agg #[.int .i64 res.k,.int .i64 res.n,S res.s]∧Ext w0 w):=by
 refine en func88 [0,1,2] O3 fun Q a Zi Z hzs H h hr=>?_
 clear hzs
 unfold funcs_Binary at hS
 refine rg fun K k=>z_box h H rfl O3 rfl rfl fun a p1 w X H h=>?_
 have H:HZ w0 _ _ [_] _:=H
 refine z_box h H rfl O3 rfl rfl fun a p2 w X H h=>?_
 have H:HZ w0 _ _ O2 _:=H
 refine zA h H V26 O3 (fun x=>[_,_,x]) fun a p3 w X H h=>?_
 refine cz k<|sb ?_
 refine rg fun K k=>cps 1 h rfl fun a h=>sB h hS rfl (v_ge rfl rfl) fun z5 e5 hS a h=>cps 1 h rfl fun a h=>cN k h [0,4,5,6,10] O5 fun h=>?_
 refine cI h hS rfl (fun ec6 hS=>?_) fun ec6 hS=>?_
 refine rg fun K k=>s1 h rfl (lA H 0 A26 Z26 O3) fun a h=>s1 h rfl (lA H 1 A26 Z26 O3) fun a h=>sC h H hS rfl (fun y7 f7=>dC call118 (value_Compare_ok f7 :)) fun y7 hS w X H a h=>?_
 refine cps 1 h rfl fun a h=>cN k h [0,6,7] O3 fun h=>?_
 refine rg fun K k=>cps 1 h rfl fun a h=>sB h hS rfl (v_eq rfl rfl) fun z8 e8 hS a h=>cps 1 h rfl fun a h=>sB h hS rfl (v_ne rfl rfl) fun z9 e9 hS a h=>cps 1 h rfl fun a h=>sB h hS rfl (v_lt rfl rfl) fun z10 e10 hS a h=>cps 1 h rfl fun a h=>sB h hS rfl (v_le rfl rfl) fun z11 e11 hS a h=>cps 1 h rfl fun a h=>sB h hS rfl (v_gt rfl rfl) fun z12 e12 hS a h=>cps 1 h rfl fun a h=>sB h hS rfl (v_ge rfl rfl) fun z13 e13 hS a h=>s1 h rfl (v_build bld178 O6 O6 rfl rfl) fun a h=>cps 1 h rfl fun a h=>sI h hS rfl (v_subw rfl rfl) fun z14 e14 hS a h=>?_
 obtain ⟨c15,hS⟩:=ck hS
 refine sB h hS rfl (v_idxArrB [z8,z9,z10,z11,z12,z13] underlying178 sizeOf4 isAgg4 rfl rfl rfl c15) fun z16 e16 hS a h=>sC h H hS rfl (fun y17 f17=>dC call24 (value_Bool_ok f17 :)) fun y17 hS w X H a h=>?_
 refine zS h H 2 Z26 O3 O3 O3 fun w H=>?_
 refine cN k h [6] [_] fun h=>?_
 cases hS
 refine r1 hr h rfl (rvA H 2 A26 Z26 O3) ⟨rfl,H.out⟩
 refine rg fun K k=>cps 1 h rfl fun a h=>sB h hS rfl (v_eq rfl rfl) fun z18 e18 hS a h=>cps 1 h rfl fun a h=>cz k<|cI h hS rfl (fun ec19 hS=>?_) fun ec19 hS=>?_
 refine flT 6 h fun K k=>?_
 refine F1 rfl (fun w X=>have H:=H.ext X;lA H 0 A26 Z26 O3) ?_
 refine fC hS rfl (fun y20 f20 w X=>have H:=H.ext X;dC call119 (value_Show_ok f20 (hG.ext H.out) :)) fun y20 hS=>?_
 refine F1 rfl (fun w X=>have H:=H.ext X;lA H 1 A26 Z26 O3) ?_
 refine fC hS rfl (fun y21 f21 w X=>have H:=H.ext X;dC call119 (value_Show_ok f21 (hG.ext H.out) :)) fun y21 hS=>?_
 obtain ⟨c22,hS⟩:=ck hS
 refine fS hS rfl (fun w X=>v_sadd rfl rfl c22) fun z23 e23 hS=>?_
 refine fC hS rfl (fun y24 f24 w X=>dC call28 (value_Text_ok f24 :)) fun y24 hS=>?_
 refine fE [6,41] O2 H fun a w X H h=>?_
 refine zS h H 2 Z26 O3 O3 O3 fun w H=>?_
 refine cz k ?_
 cases hS
 refine r1 hr h rfl (rvA H 2 A26 Z26 O3) ⟨rfl,H.out⟩
 refine c_skip<|cO h [0,4,5,6] O4 fun h=>?_
 refine flT 6 h fun K k=>?_
 refine F1 rfl (fun w X=>have H:=H.ext X;lA H 0 A26 Z26 O3) ?_
 refine fC hS rfl (fun y25 f25 w X=>dC call115 (value_ToNum_ok f25 :)) fun y25 hS=>?_
 refine F1 rfl (fun w X=>have H:=H.ext X;lA H 1 A26 Z26 O3) ?_
 refine fC hS rfl (fun y26 f26 w X=>dC call115 (value_ToNum_ok f26 :)) fun y26 hS=>?_
 refine f_alloc V26 O3 rfl rfl ?_
 refine f_alloc V26 O3 rfl rfl ?_
 refine fn_ ?_
 intro a w X hR hA
 obtain ⟨_,⟨p27,rfl,hb8⟩,_,⟨p28,rfl,hb9⟩,h⟩:=hR.out [0,6,8,9,43,45]
 have h:Fr 97 [(45,_),(43,_),(9,_),(8,_),(6,_),(0,_)] a:=h
 have lo8:=hA.lo' h (s:=8) rfl rfl
 have lo9:=hA.lo' h (s:=9) rfl rfl
 have ne_:=hA.ne' h (s:=8) (t:=9) rfl rfl rfl rfl rfl
 have H:=H.pushF2 X hb8 lo8 hb9 lo9 ne_
 have H:HZ w0 _ _ O5 _:=H
 refine zS h H 3 Z26 O3 O3 O5 fun w H=>?_
 refine zS h H 4 Z26 O3 O3 O5 fun w H=>?_
 refine cz k<|sq<|rg fun K k=>s1 h rfl (v_fieldAddr rfl U26 rfl Z3 rfl rfl) fun a h=>s1 h rfl (l1 H 3 A3) fun a h=>sB h hS rfl (v_eq rfl rfl) fun z30 e30 hS a h=>cN k h [0,6,8,9,48] O5 fun h=>?_
 refine cI h hS rfl (fun ec31 hS=>?_) fun ec31 hS=>?_
 refine rg fun K k=>s1 h rfl (lA H 3 A26 Z26 O3) fun a h=>zS h H 2 Z26 O3 O3 O5 fun w H=>?_
 refine cN k h [6] [_] fun h=>?_
 cases hS
 refine r1 hr h rfl (rvA H 2 A26 Z26 O3) ⟨rfl,H.out⟩
 refine c_skip<|sq<|rg fun K k=>s1 h rfl (v_fieldAddr rfl U26 rfl Z3 rfl rfl) fun a h=>s1 h rfl (l1 H 4 A3) fun a h=>sB h hS rfl (v_eq rfl rfl) fun z33 e33 hS a h=>cz k<|cI h hS rfl (fun ec34 hS=>?_) fun ec34 hS=>?_
 refine rg fun K k=>s1 h rfl (lA H 4 A26 Z26 O3) fun a h=>zS h H 2 Z26 O3 O3 O5 fun w H=>?_
 refine cN k h [6] [_] fun h=>?_
 cases hS
 refine r1 hr h rfl (rvA H 2 A26 Z26 O3) ⟨rfl,H.out⟩
 refine c_skip<|cO h [0,6,8,9] O4 fun h=>?_
 refine sq<|rg fun K k=>cps 1 h rfl fun a h=>cz k<|lb<|rg fun K k=>sB h hS rfl (v_eq rfl rfl) fun z37 e37 hS a h=>cps 1 h rfl fun a h=>cz k<|cI h hS rfl (fun ec38 hS=>?_) fun ec38 hS=>?_
 refine rg fun K k=>s1 h rfl (v_fieldAddr rfl U26 rfl Z2 rfl rfl) fun a h=>s1 h rfl (l1 H 3 A2) fun a h=>s1 h rfl (v_fieldAddr rfl U26 rfl Z2 rfl rfl) fun a h=>s1 h rfl (l1 H 4 A2) fun a h=>sC h H hS rfl (fun y39 f39=>dC call57 (num_Add_ok f39 :)) fun y39 hS w X H a h=>?_
 refine cps 2 h rfl fun a h=>sC h H hS rfl (fun y40 f40=>dC call116 (value_Made_ok f40 :)) fun y40 hS w X H a h=>?_
 refine zS h H 2 Z26 O3 O3 O5 fun w H=>?_
 refine cN k h [6] [_] fun h=>?_
 cases hS
 refine r1 hr h rfl (rvA H 2 A26 Z26 O3) ⟨rfl,H.out⟩
 refine rg fun K k=>sB h hS rfl (v_eq rfl rfl) fun z41 e41 hS a h=>cps 1 h rfl fun a h=>cN k h [6,8,9,54,65] O5 fun h=>?_
 refine cI h hS rfl (fun ec42 hS=>?_) fun ec42 hS=>?_
 refine rg fun K k=>s1 h rfl (v_fieldAddr rfl U26 rfl Z2 rfl rfl) fun a h=>s1 h rfl (l1 H 3 A2) fun a h=>s1 h rfl (v_fieldAddr rfl U26 rfl Z2 rfl rfl) fun a h=>s1 h rfl (l1 H 4 A2) fun a h=>sC h H hS rfl (fun y43 f43=>dC call120 (num_Sub_ok f43 :)) fun y43 hS w X H a h=>?_
 refine cps 2 h rfl fun a h=>sC h H hS rfl (fun y44 f44=>dC call116 (value_Made_ok f44 :)) fun y44 hS w X H a h=>?_
 refine zS h H 2 Z26 O3 O3 O5 fun w H=>?_
 refine cN k h [6] [_] fun h=>?_
 cases hS
 refine r1 hr h rfl (rvA H 2 A26 Z26 O3) ⟨rfl,H.out⟩
 refine rg fun K k=>sB h hS rfl (v_eq rfl rfl) fun z45 e45 hS a h=>cps 1 h rfl fun a h=>cz k<|cI h hS rfl (fun ec46 hS=>?_) fun ec46 hS=>?_
 refine rg fun K k=>s1 h rfl (v_fieldAddr rfl U26 rfl Z2 rfl rfl) fun a h=>s1 h rfl (l1 H 3 A2) fun a h=>s1 h rfl (v_fieldAddr rfl U26 rfl Z2 rfl rfl) fun a h=>s1 h rfl (l1 H 4 A2) fun a h=>sC h H hS rfl (fun y47 f47=>dC call56 (num_Mul_ok f47 :)) fun y47 hS w X H a h=>?_
 refine cps 2 h rfl fun a h=>sC h H hS rfl (fun y48 f48=>dC call116 (value_Made_ok f48 :)) fun y48 hS w X H a h=>?_
 refine zS h H 2 Z26 O3 O3 O5 fun w H=>?_
 refine cN k h [6] [_] fun h=>?_
 cases hS
 refine r1 hr h rfl (rvA H 2 A26 Z26 O3) ⟨rfl,H.out⟩
 refine c_skip<|cO h [6,8,9] O3 fun h=>?_
 refine sq<|rg fun K k=>s1 h rfl (v_fieldAddr rfl U26 rfl Z2 rfl rfl) fun a h=>s1 h rfl (l1 H 4 A2) fun a h=>sB h hS rfl (v_eq rfl rfl) fun z50 e50 hS a h=>cz k<|cI h hS rfl (fun ec51 hS=>?_) fun ec51 hS=>?_
 refine rg fun K k=>sC h H hS rfl (fun y52 f52=>dC call21 (value_Fail_ok f52 :)) fun y52 hS w X H a h=>?_
 refine zS h H 2 Z26 O3 O3 O5 fun w H=>?_
 refine cN k h [6] [_] fun h=>?_
 cases hS
 refine r1 hr h rfl (rvA H 2 A26 Z26 O3) ⟨rfl,H.out⟩
 refine c_skip<|rg fun K k=>s1 h rfl (v_fieldAddr rfl U26 rfl Z2 rfl rfl) fun a h=>s1 h rfl (l1 H 3 A2) fun a h=>s1 h rfl (v_fieldAddr rfl U26 rfl Z2 rfl rfl) fun a h=>s1 h rfl (l1 H 4 A2) fun a h=>sC h H hS rfl (fun y53 f53=>dC call117 (num_Quo_ok f53 :)) fun y53 hS w X H a h=>?_
 refine cps 2 h rfl fun a h=>sC h H hS rfl (fun y54 f54=>dC call116 (value_Made_ok f54 :)) fun y54 hS w X H a h=>?_
 refine zS h H 2 Z26 O3 O3 O5 fun w H=>?_
 refine cN k h [6] [_] fun h=>?_
 cases hS
 refine r1 hr h rfl (rvA H 2 A26 Z26 O3) ⟨rfl,H.out⟩
theorem funcs_Unary_ok {x0:Int} {x1:V} {res:V} {w0:World} (hS:funcs_Unary x0 x1=some res):Calls Tryz.prog 87 [.int .i64 x0,(vA x1)].toArray w0 (Ret fun v w=>v=.agg #[.int .i64 res.k,.int .i64 res.n,S res.s]∧Ext w0 w):=by
 refine en func87 [0,1] O2 fun Q a Zi Z hzs H h hr=>?_
 clear hzs
 unfold funcs_Unary at hS
 refine rg fun K k=>z_box h H rfl O3 rfl rfl fun a p1 w X H h=>?_
 have H:HZ w0 _ _ [_] _:=H
 refine zA h H V26 O3 (fun x=>[_,x]) fun a p2 w X H h=>?_
 refine cz k<|rg fun K k=>s1 h rfl (lA H 0 A26 Z26 O3) fun a h=>sC h H hS rfl (fun y3 f3=>dC call115 (value_ToNum_ok f3 :)) fun y3 hS w X H a h=>?_
 refine zA h H V26 O3 (fun x=>[_,_,x]) fun a p4 w X H h=>?_
 refine zS h H 2 Z26 O3 O3 O3 fun w H=>?_
 refine cN k h [0,4,5] O3 fun h=>?_
 refine sq<|rg fun K k=>s1 h rfl (v_fieldAddr rfl U26 rfl Z3 rfl rfl) fun a h=>s1 h rfl (l1 H 2 A3) fun a h=>sB h hS rfl (v_eq rfl rfl) fun z6 e6 hS a h=>cz k<|cI h hS rfl (fun ec7 hS=>?_) fun ec7 hS=>?_
 refine rg fun K k=>s1 h rfl (lA H 2 A26 Z26 O3) fun a h=>zS h H 1 Z26 O3 O3 O3 fun w H=>?_
 refine cN k h [4] [_] fun h=>?_
 cases hS
 refine r1 hr h rfl (rvA H 1 A26 Z26 O3) ⟨rfl,H.out⟩
 refine c_skip<|sq<|rg fun K k=>cps 1 h rfl fun a h=>sB h hS rfl (v_eq rfl rfl) fun z9 e9 hS a h=>cN k h [4,5,13] O3 fun h=>?_
 refine cI h hS rfl (fun ec10 hS=>?_) fun ec10 hS=>?_
 refine rg fun K k=>s1 h rfl (v_fieldAddr rfl U26 rfl Z2 rfl rfl) fun a h=>s1 h rfl (l1 H 2 A2) fun a h=>sI h hS rfl (v_negw rfl) fun z11 e11 hS a h=>sC h H hS rfl (fun y12 f12=>dC call14 (value_Num_ok f12 :)) fun y12 hS w X H a h=>?_
 refine zS h H 1 Z26 O3 O3 O3 fun w H=>?_
 refine cN k h [4] [_] fun h=>?_
 cases hS
 refine r1 hr h rfl (rvA H 1 A26 Z26 O3) ⟨rfl,H.out⟩
 refine c_skip<|rg fun K k=>s1 h rfl (v_fieldAddr rfl U26 rfl Z2 rfl rfl) fun a h=>s1 h rfl (l1 H 2 A2) fun a h=>sC h H hS rfl (fun y13 f13=>dC call117 (num_Quo_ok f13 :)) fun y13 hS w X H a h=>?_
 refine cps 2 h rfl fun a h=>sC h H hS rfl (fun y14 f14=>dC call116 (value_Made_ok f14 :)) fun y14 hS w X H a h=>?_
 refine zS h H 1 Z26 O3 O3 O3 fun w H=>?_
 refine cN k h [4] [_] fun h=>?_
 cases hS
 refine r1 hr h rfl (rvA H 1 A26 Z26 O3) ⟨rfl,H.out⟩
theorem funcs_Bears_ok {x0:Int} {res:Bool} {w0:World} (hS:funcs_Bears x0=some res) (hG:GW w0):Calls Tryz.prog 122 [.int .i64 x0].toArray w0 (Ret fun v w=>v=.bool res∧Ext w0 w):=by
 refine en func122 [0] [_] fun Q a Zi Z hzs H h hr=>?_
 clear hzs
 unfold funcs_Bears at hS
 refine rg fun K k=>cps 1 h rfl fun a h=>cz k<|sq<|rg fun K k=>cps 1 h rfl fun a h=>sC h H hS rfl (fun y2 f2=>dC call79 (tree_Name_ok f2 (hG.ext H.out) :)) fun y2 hS w X H a h=>?_
 refine cz k<|lb ?_
 obtain ⟨J5,eJ5,hS⟩:=bv hS
 refine sqJ (fun a w=>∃ (Z:FZ) (s5:Bool),J5 s5=some res∧Fr 16 [(5,.bool s5)] a∧HZ w0 Zi Z [] w) ?_ ?_
 rintro a w ⟨Z,s5,hS,h,H⟩
 subst eJ5
 refine cI h hS rfl (fun ec6 hS=>?_) fun ec6 hS=>?_
 refine rg fun K k=>cps 1 h rfl fun a h=>cz k ?_
 cases hS
 refine r1 hr h rfl rfl ⟨rfl,H.out⟩
 refine c_skip<|rg fun K k=>cps 1 h rfl fun a h=>cz k ?_
 cases hS
 refine r1 hr h rfl rfl ⟨rfl,H.out⟩
 refine rg fun K k=>sB h hS rfl (v_seq rfl rfl) fun z7 e7 hS a h=>cps 1 h rfl fun a h=>cN k h [4,5] O2 fun h=>?_
 refine cI h hS rfl (fun ec8 hS=>?_) fun ec8 hS=>?_
 exact c_skip (ex2 ⟨hS,h.to,H⟩)
 refine rg fun K k=>sB h hS rfl (v_seq rfl rfl) fun z9 e9 hS a h=>cps 1 h rfl fun a h=>cz k<|cI h hS rfl (fun ec10 hS=>?_) fun ec10 hS=>?_
 exact c_skip (ex2 ⟨hS,h.to,H⟩)
 refine rg fun K k=>sB h hS rfl (v_seq rfl rfl) fun z11 e11 hS a h=>cps 1 h rfl fun a h=>cz k<|cI h hS rfl (fun ec12 hS=>?_) fun ec12 hS=>?_
 exact c_skip (ex2 ⟨hS,h.to,H⟩)
 refine rg fun K k=>sB h hS rfl (v_seq rfl rfl) fun z13 e13 hS a h=>cps 1 h rfl fun a h=>cz k<|cI h hS rfl (fun ec14 hS=>?_) fun ec14 hS=>?_
 exact c_skip (ex2 ⟨hS,h.to,H⟩)
 refine rg fun K k=>sB h hS rfl (v_seq rfl rfl) fun z15 e15 hS a h=>cps 1 h rfl fun a h=>cN k h [4,5] O2 fun h=>?_
 refine cI h hS rfl (fun ec16 hS=>?_) fun ec16 hS=>?_
 exact c_skip (ex2 ⟨hS,h.to,H⟩)
 refine rg fun K k=>sB h hS rfl (v_seq rfl rfl) fun z17 e17 hS a h=>cps 1 h rfl fun a h=>cz k<|cI h hS rfl (fun ec18 hS=>?_) fun ec18 hS=>?_
 exact c_skip (ex2 ⟨hS,h.to,H⟩)
 refine rg fun K k=>sB h hS rfl (v_seq rfl rfl) fun z19 e19 hS a h=>cps 1 h rfl fun a h=>cz k<|cI h hS rfl (fun ec20 hS=>?_) fun ec20 hS=>?_
 exact c_skip (ex2 ⟨hS,h.to,H⟩)
 refine rg fun K k=>sB h hS rfl (v_seq rfl rfl) fun z21 e21 hS a h=>cps 1 h rfl fun a h=>cz k<|cI h hS rfl (fun ec22 hS=>?_) fun ec22 hS=>?_
 exact c_skip (ex2 ⟨hS,h.to,H⟩)
 refine rg fun K k=>sB h hS rfl (v_seq rfl rfl) fun z23 e23 hS a h=>cps 1 h rfl fun a h=>cN k h [4,5] O2 fun h=>?_
 refine cI h hS rfl (fun ec24 hS=>?_) fun ec24 hS=>?_
 exact c_skip (ex2 ⟨hS,h.to,H⟩)
 refine c_lregion<|sB h hS rfl (v_seq rfl rfl) fun z25 e25 hS a h=>cps 1 h rfl fun a h=>c_lnil ?_
 exact ex2 ⟨hS,h.to,H⟩
end Go.Proofs.YtcecjdnkcbfhlaaGreatDoor
