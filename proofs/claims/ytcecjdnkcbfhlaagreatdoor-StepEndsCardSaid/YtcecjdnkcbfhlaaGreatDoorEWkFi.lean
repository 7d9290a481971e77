/- Joined texts. -/
import Derived.Test.YtcecjdnkcbfhlaaGreatDoorEU0
import Derived.Test.YtcecjdnkcbfhlaaGreatDoorEWkSt
set_option linter.unusedSimpArgs false
set_option linter.unusedVariables false
set_option linter.unusedSectionVars false
namespace Go.Proofs.YtcecjdnkcbfhlaaGreatDoor
open Go.Stp Go.RowKit Go.ValP Go.Sp _root_.Go.Proofs.Tryz
set_option maxRecDepth 100000
theorem reckonerlaw14_fit_ok  {res:Bool} {w0:World} (hS:reckonerlaw14_fit  = some res) (hG:GWL w0):Calls Tryz.prog 37 [].toArray w0 (Ret fun v w=>v=.bool res∧Ext w0 w):=by
 refine en func37 [] [] fun Q a Zi Z hzs H h hr=>?_
 clear hzs
 unfold reckonerlaw14_fit at hS
 refine rg fun K k=>cps 1 h rfl fun a h=>cz k<|rg fun K k=>?_
 obtain ⟨y1,f1,hS⟩:=bo hS
 refine st2 h rfl rfl rfl (dC call42 (parse_Parse_ok (x0:=([49,43,50,42,51]:List UInt8)) (x1:=(0:Int)) f1 H.zin (hG.ext H.out))) ?_
 rintro v_ w ⟨v6_2_1,rfl,r6_2_1,X⟩ a h
 obtain ⟨Z,hsub,hadd,H⟩:=H.adopt' X
 have r6_2_1:=r6_2_1.sub hadd
 refine cps 4 h rfl fun a h=>zA h H V33 O17 (fun x=>[x]) fun a p3 w X H h=>?_
 refine z_store h H 0 rfl rfl rfl Z33 O17 rfl rfl (by obtain ⟨_,_,_,e_⟩:=(r6_2_1).form;subst e_;rfl) (by simp) O17 rfl (hl':=[_]) rfl fun w H=>?_
 refine cps 2 h rfl fun a h=>cN k h [1,3] O2 fun h=>?_
 refine rg fun K k=>s1 h rfl (lA H 0 A33 Z33 O17) fun a h=>s1 (V:=.agg (zeroPl.flatMap vL).toArray) h rfl (v_buildZ bldZ) fun a h=>z_box h H rfl (zeroPl.flatMap vL) rfl rfl fun a p4 w X H h=>?_
 have H:HZ w0 _ _ O2 _:=H
 have lp1:=zeroPl_len
 obtain ⟨Z,hsub,H,hz1_5⟩:=H.freezeB 1 rfl rfl
 have r6_2_1:=r6_2_1.sub hsub
 have H:HZ w0 _ _ O2 _:=H
 refine s1 h rfl (v_mkIface mkI rfl) fun a h=>?_
 obtain ⟨y6,f6,hS⟩:=bo hS
 refine st2 h rfl rfl rfl (dC call38 (step_All_ok f6 H.zin r6_2_1 hz1_5 lp1 (hG.ext H.out))) ?_
 rintro v14_8_1 w ⟨r14_8_1,X⟩ a h
 obtain ⟨Z,hsub,hadd,H⟩:=H.adopt' X
 have r6_2_1:=r6_2_1.sub hsub
 have hz1_5:=hsub _ _ hz1_5
 have r14_8_1:=r14_8_1.sub hadd
 refine cps 1 h rfl fun a h=>cN k h [3,4] O2 fun h=>?_
 refine fl h ?_
 refine fcps 1 rfl ?_
 refine fB hS rfl (fun w X=>v_eq rfl rfl) fun z9 e9 hS=>?_
 refine fcps 1 rfl ?_
 refine f_g [4,17] rfl rfl rfl (gT rfl) rfl rfl (fun e0 w X=>v_move rfl) ?_
 refine f_g [18,17] rfl rfl rfl (gT rfl) rfl rfl (fun e0 w X=>have H:=H.ext X;v_lenN U31 (eg e0 rfl) r14_8_1 H.zin) ?_
 obtain ⟨z10,e10,hS⟩:=bv hS
 refine f_g [19,17] rfl rfl rfl (gT rfl) rfl rfl (fun e0 w X=>vB e10 (v_eq (eg e0 rfl) rfl)) ?_
 refine fB hS rfl (fun w X=>v_and rfl rfl) fun z11 e11 hS=>?_
 refine fcps 1 rfl ?_
 refine f_g [4,22] rfl rfl rfl (gT rfl) rfl rfl (fun e0 w X=>v_move rfl) ?_
 obtain ⟨c12,hS⟩:=ck hS
 obtain ⟨z13,e13,hS⟩:=bv hS
 have q_14:=r14_8_1.gel ⟨_,nodeEnc_dflt⟩ 2
 rw [←e13] at q_14
 obtain ⟨css_14,cl_14,rc_14,hc_14,q_14⟩:=q_14
 obtain ⟨v24_14_1,hcs_14,r24_14_1⟩:=node_op q_14
 refine f_gR (R:=(fun w' v'=>At w' v' (fun _:Unit=>(nL z13 v24_14_1)) () 0)) (c:=z11) [23,22] rfl rfl rfl rfl rfl at_stab (fun w X=>?_) ?_
 skip
 exact ⟨(gT rfl),fun e0=>have H:=H.ext X;d_idxC U31 Z33 (eg e0 rfl) rfl (rc_14.at H.zin) (c12 e0).1 (hc_14 (c12 e0)) hcs_14⟩
 refine f_gR (R:=(fun w' v'=>At w' v' (fun _:Unit=>(nL z13 v24_14_1)) () 2)) (c:=z11) [24,22] rfl rfl rfl rfl rfl at_stab (fun w X=>?_) ?_
 intro v24 h24
 exact ⟨(gT rfl),fun e0=>d_field rfl (h24 e0) U33 rfl Z26 rfl rfl⟩
 refine f_gE (V:=(vA z13.v)) (c:=z11) [25,22] rfl rfl rfl rfl rfl (fun w X=>?_) ?_
 intro v25 h25
 exact ⟨(gT rfl),fun e0=>(v_loadAtA O3 rfl (h25 e0) A26 Z26 rfl rfl).doesF⟩
 obtain ⟨y15,f15,hS⟩:=bo hS
 refine f_gd (V:=(vA y15)) [22] rfl rfl rfl (gT rfl) rfl rfl (fun e0 w X=>dC call14 (value_Num_ok (x0:=(7000000:Int)) (ifT e0 f15))) ?_
 obtain ⟨z16,e16,hS⟩:=bv hS
 refine f_g [26,27,22] rfl rfl rfl (gT rfl) rfl rfl (fun e0 w X=>vB e16 (v_aggeq (eg e0 rfl) (eg e0 rfl) age26 (agq26 _ _ _ _ _ _))) ?_
 refine fB hS rfl (fun w X=>v_and rfl rfl) fun z17 e17 hS=>?_
 refine fcps 1 rfl ?_
 refine f_g [4,30] rfl rfl rfl (gT rfl) rfl rfl (fun e0 w X=>v_move rfl) ?_
 obtain ⟨c18,hS⟩:=ck hS
 obtain ⟨z19,e19,hS⟩:=bv hS
 have q_20:=r14_8_1.gel ⟨_,nodeEnc_dflt⟩ 1
 rw [←e19] at q_20
 obtain ⟨css_20,cl_20,rc_20,hc_20,q_20⟩:=q_20
 obtain ⟨v32_20_1,hcs_20,r32_20_1⟩:=node_op q_20
 refine f_gR (R:=(fun w' v'=>At w' v' (fun _:Unit=>(nL z19 v32_20_1)) () 0)) (c:=z17) [31,30] rfl rfl rfl rfl rfl at_stab (fun w X=>?_) ?_
 skip
 exact ⟨(gT rfl),fun e0=>have H:=H.ext X;d_idxC U31 Z33 (eg e0 rfl) rfl (rc_20.at H.zin) (c18 e0).1 (hc_20 (c18 e0)) hcs_20⟩
 refine f_gE (V:=(nA z19 v32_20_1)) (c:=z17) [32,30] rfl rfl rfl rfl rfl (fun w X=>?_) ?_
 intro v32 h32
 exact ⟨(gT rfl),fun e0=>(v_loadAtA O17 rfl (h32 e0) A33 Z33 rfl rfl).doesF⟩
 obtain ⟨y21,f21,hS⟩:=bo hS
 refine f_gd (V:=S y21) [33,30] rfl rfl rfl (gT rfl) rfl rfl (fun e0 w X=>have H:=H.ext X;d_call O2 (evs_c (eg e0 rfl) (evs_c rfl evs_n)) call43 (show_Formula_ok (x0:=z19) (x1:=(0:Int)) (ifT e0 f21) (r32_20_1.hz H.zin) (hG.ext H.out))) ?_
 obtain ⟨z22,e22,hS⟩:=bv hS
 refine f_g [34,30] rfl rfl rfl (gT rfl) rfl rfl (fun e0 w X=>vB e22 (v_seq (eg e0 rfl) rfl)) ?_
 refine fB hS rfl (fun w X=>v_and rfl rfl) fun z23 e23 hS=>?_
 refine fcps 1 rfl ?_
 refine fE [0] [_] H fun a w X H h=>?_
 cases hS
 refine r1 hr h rfl rfl ⟨rfl,H.out⟩
end Go.Proofs.YtcecjdnkcbfhlaaGreatDoor
