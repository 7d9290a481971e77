/- Joined texts. -/
import Derived.Test.YtcecjdnkcbfhlaaGreatDoorEU0
import Derived.Test.YtcecjdnkcbfhlaaGreatDoorEWkFi
import Derived.Test.YtcecjdnkcbfhlaaGreatDoorEWkFm
set_option linter.unusedSimpArgs false
set_option linter.unusedVariables false
set_option linter.unusedSectionVars false
namespace Go.Proofs.YtcecjdnkcbfhlaaGreatDoor
open Go.Stp Go.RowKit Go.ValP Go.Sp _root_.Go.Proofs.Tryz
set_option maxRecDepth 100000
theorem reckonerlaw14_StepEnds_ok {x0:List (Int)} {x1:List (V)} {res:Bool} {w0:World} (hS:reckonerlaw14_StepEnds x0 x1=some res) {xv0:Value} (rp0:RdZ (hz w0) xv0 1 (eI .u8) x0) {xv1:Value} (rp1:RdZ (hz w0) xv1 3 vL x1) (hG:GWL w0):Calls Tryz.prog 9 [xv0,xv1].toArray w0 (Ret fun v w=>v=.bool res∧Ext w0 w):=by
 refine en func9 [0,1] O2 fun Q a Zi Z hzs H h hr=>?_
 have rp0:=rp0.sub hzs
 have rp1:=rp1.sub hzs
 clear hzs
 unfold reckonerlaw14_StepEnds at hS
 refine rg fun K k=>z_box h H rfl [xv0] (by rw [rp0.cells]) rfl fun a p1 w X H h=>?_
 have H:HZ w0 _ _ [_] _:=H
 refine cps 1 h rfl fun a h=>cz k<|sq<|rg fun K k=>sC h H hS rfl (fun y3 f3=>dC call37 (reckonerlaw14_fit_ok f3 (hG.ext H.out) :)) fun y3 hS w X H a h=>?_
 refine sB h hS rfl (v_not rfl) fun z4 e4 hS a h=>cz k<|cI h hS rfl (fun ec5 hS=>?_) fun ec5 hS=>?_
 refine rg fun K k=>cps 1 h rfl fun a h=>cN k h [4] [_] fun h=>?_
 cases hS
 refine r1 hr h rfl rfl ⟨rfl,H.out⟩
 refine c_skip<|cO h [1,2] O2 fun h=>?_
 refine sq<|rg fun K k=>s1 h rfl (l1 H 0 isAgg23) fun a h=>s1 h rfl (v_len U23 rfl (rp0.at H.zin)) fun a h=>sB h hS rfl (v_gt rfl rfl) fun z7 e7 hS a h=>cps 1 h rfl fun a h=>st_g h rfl rfl (gF rfl) rfl rfl (fun e0=>v_move rfl) fun a h=>?_
 refine st_g h rfl rfl (gF rfl) rfl rfl (fun e0=>v_len U63 (eg e0 rfl) (rp1.at H.zin)) fun a h=>?_
 obtain ⟨z8,e8,hS⟩:=bv hS
 refine st_g h rfl rfl (gF rfl) rfl rfl (fun e0=>vB e8 (v_gt (eg e0 rfl) rfl)) fun a h=>?_
 refine sB h hS rfl (v_or rfl rfl) fun z9 e9 hS a h=>cN k h [1,2,19] O3 fun h=>?_
 refine cI h hS rfl (fun ec10 hS=>?_) fun ec10 hS=>?_
 refine rg fun K k=>cps 1 h rfl fun a h=>cz k ?_
 cases hS
 refine r1 hr h rfl rfl ⟨rfl,H.out⟩
 refine c_skip<|rg fun K k=>?_
 obtain ⟨y11,f11,hS⟩:=bo hS
 refine st2 h rfl rfl rfl (dC call13 (reckonerlaw05_Seed_Formula_ok KK f11 H.zin rp0 (H.hp.get 0 rfl) (H.offI 0 rfl _ rfl) rfl rfl (hG.ext H.out))) ?_
 rintro v_ w ⟨v20_12_1,rfl,r20_12_1,⟨sv_12,hm_12,rs_12⟩,X⟩ a h
 obtain ⟨Z,hsub,hadd,H⟩:=H.lentB 0 rfl hm_12 X (hl':=[_]) rfl
 have rp1:=rp1.sub hsub
 have r20_12_1:=r20_12_1.sub hadd
 have rs_12:=rs_12.sub hadd
 have H:HZ w0 _ _ [_] _:=H
 refine zA h H V33 O17 (fun x=>[_,x]) fun a p13 w X H h=>?_
 refine z_store h H 1 rfl rfl rfl Z33 O17 rfl rfl (by obtain ⟨_,_,_,e_⟩:=(r20_12_1).form;subst e_;rfl) (by simp) O17 rfl (hl':=O2) rfl fun w H=>?_
 refine cz k<|rg fun K k=>cps 1 h rfl fun a h=>?_
 obtain ⟨y14,f14,hS⟩:=bo hS
 refine st2 h rfl rfl rfl (dC call23 (reckonerlaw13_Place_ok f14 H.zin rp1)) ?_
 rintro v_ w ⟨p15,rfl,⟨lo_2,hb_2,lp2⟩,X⟩ a h
 have H:=H.pushF X hb_2 lo_2
 have H:HZ w0 _ _ O3 _:=H
 refine cps 1 h rfl fun a h=>cN k h [5,6] O2 fun h=>?_
 refine rg fun K k=>s1 h rfl (lA H 1 A33 Z33 O17) fun a h=>cps 1 h rfl fun a h=>?_
 obtain ⟨Z,hsub,H,hz2_16⟩:=H.freezeB 2 rfl rfl
 have r20_12_1:=r20_12_1.sub hsub
 have rp1:=rp1.sub hsub
 have rs_12:=rs_12.sub hsub
 have H:HZ w0 _ _ O3 _:=H
 refine s1 h rfl (v_mkIface mkI rfl) fun a h=>?_
 obtain ⟨y17,f17,hS⟩:=bo hS
 refine st2 h rfl rfl rfl (dC call38 (step_All_ok f17 H.zin r20_12_1 hz2_16 lp2 (hG.ext H.out))) ?_
 rintro v26_19_1 w ⟨r26_19_1,X⟩ a h
 obtain ⟨Z,hsub,hadd,H⟩:=H.adopt' X
 have r20_12_1:=r20_12_1.sub hsub
 have rp1:=rp1.sub hsub
 have rs_12:=rs_12.sub hsub
 have hz2_16:=hsub _ _ hz2_16
 have r26_19_1:=r26_19_1.sub hadd
 refine cps 1 h rfl fun a h=>cN k h [5,6,7] O3 fun h=>?_
 refine rg fun K k=>s1 h rfl (lA H 1 A33 Z33 O17) fun a h=>s1 h rfl (v_build bld28 [] O3 rfl rfl) fun a h=>cps 1 h rfl fun a h=>s1 h rfl (v_mkIface mkI rfl) fun a h=>?_
 obtain ⟨y20,f20,hS⟩:=bo hS
 refine st2 h rfl rfl rfl (dC call19 (eval_Eval_ok f20 H.zin r20_12_1 hz2_16 lp2 (hG.ext H.out))) ?_
 rintro v_ w ⟨v31_21_1,rfl,r31_21_1,X⟩ a h
 obtain ⟨Z,hsub,hadd,H⟩:=H.adopt' X
 have r20_12_1:=r20_12_1.sub hsub
 have r26_19_1:=r26_19_1.sub hsub
 have rp1:=rp1.sub hsub
 have rs_12:=rs_12.sub hsub
 have hz2_16:=hsub _ _ hz2_16
 have r31_21_1:=r31_21_1.sub (ZB.empty.trans hadd)
 refine s1 h rfl (v_fieldA O3 rfl U51 rfl A26 Z26 rfl) fun a h=>zA h H V26 O3 (fun x=>[_,_,_,x]) fun a p22 w X H h=>?_
 refine zS h H 3 Z26 O3 O3 O4 fun w H=>?_
 refine cN k h [5,6,7,8] O4 fun h=>?_
 refine rg fun K k=>cps 2 h rfl fun a h=>s1 h rfl (v_lenN U31 rfl r26_19_1 H.zin) fun a h=>sI h hS rfl (v_subw rfl rfl) fun z23 e23 hS a h=>?_
 obtain ⟨c24,hS⟩:=ck hS
 obtain ⟨z25,e25,hS⟩:=bv hS
 have q_26:=r26_19_1.gel ⟨_,nodeEnc_dflt⟩ z23
 rw [←e25] at q_26
 obtain ⟨css_26,cl_26,rc_26,hc_26,q_26⟩:=q_26
 obtain ⟨v37_26_1,hcs_26,r37_26_1⟩:=node_op q_26
 refine st_idxC h U31 Z33 rfl rfl (rc_26.at H.zin) c24.1 (hc_26 c24) hcs_26 rfl fun a v37 A37 h=>?_
 refine s1 h rfl (v_loadAtA O17 rfl A37 A33 Z33 rfl rfl) fun a h=>zA h H V33 O17 (fun x=>[_,_,_,_,x]) fun a p27 w X H h=>?_
 have A37:=At.ext A37 X
 refine z_store h H 4 rfl rfl rfl Z33 O17 rfl rfl (by obtain ⟨_,_,_,e_⟩:=(r37_26_1).form;subst e_;rfl) (by simp) O17 rfl (hl':=O5) rfl fun w H=>?_
 refine cN k h [5,6,7,8,9] O5 fun h=>?_
 refine sq<|fl h ?_
 refine fcps 1 rfl ?_
 refine F1 rfl (fun w X=>have H:=H.ext X;v_lenN U31 rfl r26_19_1 H.zin) ?_
 refine F1 rfl (fun w X=>have H:=H.ext X;lA H 1 A33 Z33 O17) ?_
 obtain ⟨y29,f29,hS⟩:=bo hS
 refine f2 (V:=.int .i64 y29) [41] rfl rfl rfl rfl (fun w X=>have Hs:=ZB.of H.zin X;have H:=H.ext X;dC call39 (tree_Size_ok KK f29 (ZB.inn H.zin) (r20_12_1.sub Hs) (hG.ext H.out))) ?_
 refine fI hS rfl (fun w X=>v_mulw rfl rfl) fun z30 e30 hS=>?_
 refine fI hS rfl (fun w X=>v_addw rfl rfl) fun z31 e31 hS=>?_
 refine fB hS rfl (fun w X=>v_gt rfl rfl) fun z32 e32 hS=>?_
 refine fcps 1 rfl ?_
 refine f_g [9,46] rfl rfl rfl (gF rfl) rfl rfl (fun e0 w X=>v_fieldAddr rfl U33 rfl Z3 rfl rfl) ?_
 refine f_g [47,46] rfl rfl rfl (gF rfl) rfl rfl (fun e0 w X=>have H:=H.ext X;v_load1 (eg e0 rfl) A3 (H.hp.get 4 rfl) rfl) ?_
 obtain ⟨z33,e33,hS⟩:=bv hS
 refine f_g [48,46] rfl rfl rfl (gF rfl) rfl rfl (fun e0 w X=>vB e33 (v_ne (eg e0 rfl) rfl)) ?_
 refine fB hS rfl (fun w X=>v_or rfl rfl) fun z34 e34 hS=>?_
 refine fcps 1 rfl ?_
 refine f_g [9,51] rfl rfl rfl (gF rfl) rfl rfl (fun e0 w X=>v_fieldAddr rfl U33 rfl Z26 rfl rfl) ?_
 refine f_g [52,51] rfl rfl rfl (gF rfl) rfl rfl (fun e0 w X=>have H:=H.ext X;v_loadA O3 (eg e0 rfl) A26 Z26 (H.hp.get 4 rfl) rfl rfl) ?_
 refine f_g [8,51] rfl rfl rfl (gF rfl) rfl rfl (fun e0 w X=>have H:=H.ext X;lA H 3 A26 Z26 O3) ?_
 obtain ⟨z35,e35,hS⟩:=bv hS
 refine f_g [53,54,51] rfl rfl rfl (gF rfl) rfl rfl (fun e0 w X=>vB e35 (v_aggne (eg e0 rfl) (eg e0 rfl) age26 (agq26 _ _ _ _ _ _))) ?_
 refine fB hS rfl (fun w X=>v_or rfl rfl) fun z36 e36 hS=>?_
 refine fcps 1 rfl ?_
 refine f_g [7,57] rfl rfl rfl (gF rfl) rfl rfl (fun e0 w X=>v_move rfl) ?_
 obtain ⟨c37,hS⟩:=ck hS
 obtain ⟨z38,e38,hS⟩:=bv hS
 have q_39:=r26_19_1.gel ⟨_,nodeEnc_dflt⟩ 0
 rw [←e38] at q_39
 obtain ⟨css_39,cl_39,rc_39,hc_39,q_39⟩:=q_39
 obtain ⟨v59_39_1,hcs_39,r59_39_1⟩:=node_op q_39
 refine f_gR (R:=(fun w' v'=>At w' v' (fun _:Unit=>(nL z38 v59_39_1)) () 0)) (c:=!z36) [58,57] rfl rfl rfl rfl rfl at_stab (fun w X=>?_) ?_
 skip
 exact ⟨(gF rfl),fun e0=>have H:=H.ext X;d_idxC U31 Z33 (eg e0 rfl) rfl (rc_39.at H.zin) (c37 e0).1 (hc_39 (c37 e0)) hcs_39⟩
 refine f_gE (V:=(nA z38 v59_39_1)) (c:=!z36) [59,57] rfl rfl rfl rfl rfl (fun w X=>?_) ?_
 intro v59 h59
 exact ⟨(gF rfl),fun e0=>(v_loadAtA O17 rfl (h59 e0) A33 Z33 rfl rfl).doesF⟩
 refine f_g [5,57] rfl rfl rfl (gF rfl) rfl rfl (fun e0 w X=>have H:=H.ext X;lA H 1 A33 Z33 O17) ?_
 obtain ⟨y40,f40,hS⟩:=bo hS
 refine f_gd (V:=.bool y40) [60,61,57] rfl rfl rfl (gF rfl) rfl rfl (fun e0 w X=>have Hs:=ZB.of H.zin X;have H:=H.ext X;d_call O2 (evs_c (eg e0 rfl) (evs_c (eg e0 rfl) evs_n)) call40 (tree_Same_ok KK (ifT e0 f40) (ZB.inn H.zin) (r59_39_1.sub Hs) (r20_12_1.sub Hs) (hG.ext H.out))) ?_
 obtain ⟨z41,e41,hS⟩:=bv hS
 refine f_g [62,57] rfl rfl rfl (gF rfl) rfl rfl (fun e0 w X=>vB e41 (v_not (eg e0 rfl))) ?_
 refine fB hS rfl (fun w X=>v_or rfl rfl) fun z42 e42 hS=>?_
 refine fE [6,9,64] O3 H fun a w X H h=>?_
 refine cI h hS rfl (fun ec43 hS=>?_) fun ec43 hS=>?_
 refine rg fun K k=>cps 1 h rfl fun a h=>cz k ?_
 cases hS
 refine r1 hr h rfl rfl ⟨rfl,H.out⟩
 refine c_skip<|fl h ?_
 refine F1 rfl (fun w X=>have H:=H.ext X;lA H 4 A33 Z33 O17) ?_
 refine fcps 1 rfl ?_
 refine F1 rfl (fun w X=>v_mkIface mkI rfl) ?_
 obtain ⟨y44,f44,hS⟩:=bo hS
 refine f_op [65,67] rfl rfl rfl rfl false (.rel (fun w' v'=>∃ v68_45_1,v'=.agg #[.int .i64 y44.k,.int .i64 y44.op,.int .i64 y44.v.k,.int .i64 y44.v.n,S y44.v.s,.int .i64 y44.a.c.s,.int .i64 y44.a.c.c,.int .i64 y44.a.c.r,.bool y44.a.ac,.bool y44.a.ar,.int .i64 y44.b.c.s,.int .i64 y44.b.c.c,.int .i64 y44.b.c.r,.bool y44.b.ac,.bool y44.b.ar,S y44.nm,v68_45_1]∧RdN (ZB Z w.heap.size w') v68_45_1 nodeEnc y44.l)) (fun w w' v X h=>by obtain ⟨v68_45_1,hv,hr0⟩:=h;exact ⟨_,hv,hr0.sub (ZB.grow X)⟩) (fun w X=>?_) ?_
 skip
 exact have Hs:=ZB.of H.zin X;have H:=H.ext X;Does.doesR (dC call41 (step_One_ok KK f44 (ZB.inn H.zin) (r37_26_1.sub Hs) (Hs _ _ hz2_16) lp2 (hG.ext H.out))) (fun v w' hr=>by obtain ⟨v68_45_1,hv,hr0,X'⟩:=hr;exact ⟨⟨_,hv,hr0.sub (ZB.back2 X X')⟩,X'⟩)
 refine F1 rfl (fun w X=>have H:=H.ext X;lA H 4 A33 Z33 O17) ?_
 obtain ⟨y46,f46,hS⟩:=bo hS
 refine f_op [68,69] rfl rfl rfl rfl false (.eq (.bool y46)) trivial (fun w X=>?_) ?_
 intro v68 h68
 obtain ⟨v68_45_1,rfl,r68_45_1⟩:=h68
 exact have Hs:=ZB.of H.zin X;have H:=H.ext X;Does.doesF (dC call40 (tree_Same_ok KK f46 (ZB.inn H.zin) r68_45_1 (r37_26_1.sub Hs) (hG.ext H.out)))
 refine fcps 1 rfl ?_
 refine fE [4] [_] H fun a w X H h=>?_
 cases hS
 refine r1 hr h rfl rfl ⟨rfl,H.out⟩
end Go.Proofs.YtcecjdnkcbfhlaaGreatDoor
