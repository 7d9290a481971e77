/- Joined texts. -/
import Derived.Test.YtcecjdnkcbfhlaaGreatDoorNU0
import Derived.Test.YtcecjdnkcbfhlaaGreatDoorNWkFi
import Derived.Test.YtcecjdnkcbfhlaaGreatDoorNWkFm
set_option linter.unusedSimpArgs false
set_option linter.unusedVariables false
set_option linter.unusedSectionVars false
namespace Go.Proofs.YtcecjdnkcbfhlaaGreatDoor
open Go.Stp Go.RowKit Go.ValP Go.Sp _root_.Go.Proofs.Tryz
set_option maxRecDepth 100000
theorem reckonerlaw14_StepOnce_ok {x0:List (Int)} {x1:List (V)} {res:Bool} {w0:World} (hS:reckonerlaw14_StepOnce x0 x1=some res) {xv0:Value} (rp0:RdZ (hz w0) xv0 1 (eI .u8) x0) {xv1:Value} (rp1:RdZ (hz w0) xv1 3 vL x1) (hG:GWL w0):Calls Tryz.prog 11 [xv0,xv1].toArray w0 (Ret fun v w=>v=.bool res∧Ext w0 w):=by
 refine en func11 [0,1] O2 fun Q a Zi Z hzs H h hr=>?_
 have rp0:=rp0.sub hzs
 have rp1:=rp1.sub hzs
 clear hzs
 unfold reckonerlaw14_StepOnce at hS
 refine rg fun K k=>z_box h H rfl [xv0] (by rw [rp0.cells]) rfl fun a p1 w X H h=>?_
 have H:HZ w0 _ _ [_] _:=H
 refine cps 1 h rfl fun a h=>cz k<|sq<|rg fun K k=>sC h H hS rfl (fun y3 f3=>dC call37 (reckonerlaw14_fit_ok f3 (hG.ext H.out) :)) fun y3 hS w X H a h=>?_
 refine sB h hS rfl (v_not rfl) fun z4 e4 hS a h=>?_
 refine cz k<|cI h hS rfl (fun ec5 hS=>?_) fun ec5 hS=>?_
 refine rg fun K k=>cps 1 h rfl fun a h=>cN k h [4] [_] fun h=>?_
 cases hS
 refine r1 hr h rfl rfl ⟨rfl,H.out⟩
 refine c_skip<|cO h [1,2] O2 fun h=>?_
 refine sq<|rg fun K k=>s1 h rfl (l1 H 0 isAgg23) fun a h=>?_
 refine s1 h rfl (v_len U23 rfl (rp0.at H.zin)) fun a h=>?_
 refine sB h hS rfl (v_gt rfl rfl) fun z7 e7 hS a h=>?_
 refine cps 1 h rfl fun a h=>st_g h rfl rfl (gF rfl) rfl rfl (fun e0=>v_move rfl) fun a h=>?_
 refine st_g h rfl rfl (gF rfl) rfl rfl (fun e0=>v_len U63 (eg e0 rfl) (rp1.at H.zin)) fun a h=>?_
 obtain ⟨z8,e8,hS⟩:=bv hS
 refine st_g h rfl rfl (gF rfl) rfl rfl (fun e0=>vB e8 (v_gt (eg e0 rfl) rfl)) fun a h=>?_
 refine sB h hS rfl (v_or rfl rfl) fun z9 e9 hS a h=>?_
 refine cN k h [1,2,19] O3 fun h=>?_
 refine cI h hS rfl (fun ec10 hS=>?_) fun ec10 hS=>?_
 refine rg fun K k=>cps 1 h rfl fun a h=>cz k ?_
 cases hS
 refine r1 hr h rfl rfl ⟨rfl,H.out⟩
 refine c_skip<|rg fun K k=>?_
 obtain ⟨y11,f11,hS⟩:=bo hS
 refine st2 h rfl rfl rfl (dC call13 (reckonerlaw05_Seed_Formula_ok KK f11 H.zin rp0 (H.hp.get 0 rfl) (H.offI 0 rfl _ rfl) rfl rfl (hG.ext H.out))) ?_
 rintro v_ w ⟨v20_12_1,rfl,r20_12_1,⟨sv_12,hm_12,rs_12⟩,X⟩ a h
 obtain ⟨Z,hsub,hadd,H⟩:=H.lentB 0 rfl hm_12 X (hl':=[_]) rfl
 have rp1:=rp1.sub hsub
 have r20_12_1:=r20_12_1.sub hadd
 have rs_12:=rs_12.sub hadd
 have H:HZ w0 _ _ [_] _:=H
 refine zA h H V33 O17 (fun x=>[_,x]) fun a p13 w X H h=>?_
 refine z_store h H 1 rfl rfl rfl Z33 O17 rfl rfl (by obtain ⟨_,_,_,e_⟩:=(r20_12_1).form;subst e_;rfl) (by simp) O17 rfl (hl':=O2) rfl fun w H=>?_
 refine cz k<|rg fun K k=>cps 1 h rfl fun a h=>?_
 obtain ⟨y14,f14,hS⟩:=bo hS
 refine st2 h rfl rfl rfl (dC call23 (reckonerlaw13_Place_ok f14 H.zin rp1)) ?_
 rintro v_ w ⟨p15,rfl,⟨lo_2,hb_2,lp2⟩,X⟩ a h
 have H:=H.pushF X hb_2 lo_2
 have H:HZ w0 _ _ O3 _:=H
 refine cps 1 h rfl fun a h=>cN k h [5,6] O2 fun h=>?_
 refine rg fun K k=>s1 h rfl (lA H 1 A33 Z33 O17) fun a h=>?_
 refine cps 1 h rfl fun a h=>?_
 obtain ⟨Z,hsub,H,hz2_16⟩:=H.freezeB 2 rfl rfl
 have r20_12_1:=r20_12_1.sub hsub
 have rp1:=rp1.sub hsub
 have rs_12:=rs_12.sub hsub
 have H:HZ w0 _ _ O3 _:=H
 refine s1 h rfl (v_mkIface mkI rfl) fun a h=>?_
 obtain ⟨y17,f17,hS⟩:=bo hS
 refine st2 h rfl rfl rfl (dC call41 (step_One_ok KK f17 H.zin r20_12_1 hz2_16 lp2 (hG.ext H.out))) ?_
 rintro v_ w ⟨v26_18_1,rfl,r26_18_1,X⟩ a h
 obtain ⟨Z,hsub,hadd,H⟩:=H.adopt' X
 have r20_12_1:=r20_12_1.sub hsub
 have rp1:=rp1.sub hsub
 have rs_12:=rs_12.sub hsub
 have hz2_16:=hsub _ _ hz2_16
 have r26_18_1:=r26_18_1.sub hadd
 refine zA h H V33 O17 (fun x=>[_,_,_,x]) fun a p19 w X H h=>?_
 refine z_store h H 3 rfl rfl rfl Z33 O17 rfl rfl (by obtain ⟨_,_,_,e_⟩:=(r26_18_1).form;subst e_;rfl) (by simp) O17 rfl (hl':=O4) rfl fun w H=>?_
 refine cN k h [5,7] O2 fun h=>?_
 refine sq<|rg fun K k=>s1 h rfl (v_fieldAddr rfl U33 rfl Z3 rfl rfl) fun a h=>?_
 refine s1 h rfl (l1 H 1 A3) fun a h=>?_
 refine sB h hS rfl (v_eq rfl rfl) fun z21 e21 hS a h=>?_
 refine cz k<|cI h hS rfl (fun ec22 hS=>?_) fun ec22 hS=>?_
 refine rg fun K k=>s1 h rfl (lA H 1 A33 Z33 O17) fun a h=>?_
 refine s1 h rfl (lA H 3 A33 Z33 O17) fun a h=>?_
 obtain ⟨y23,f23,hS⟩:=bo hS
 refine st2v (T:=Ext) (V:=.bool y23) h rfl rfl rfl (dC call40 (tree_Same_ok KK f23 H.zin r20_12_1 r26_18_1 (hG.ext H.out))) fun w X a h=>?_
 have H:=H.ext X
 refine cps 1 h rfl fun a h=>cN k h [4] [_] fun h=>?_
 cases hS
 refine r1 hr h rfl rfl ⟨rfl,H.out⟩
 refine c_skip<|sq<|fl h ?_
 refine F1 rfl (fun w X=>have H:=H.ext X;lA H 3 A33 Z33 O17) ?_
 refine fC hS rfl (fun y25 f25 w X=>have H:=H.ext X;dC call20 (tree_Right_ok f25 (r26_18_1.hz H.zin) (hG.ext H.out) :)) fun y25 hS=>?_
 refine fB hS rfl (fun w X=>v_not rfl) fun z26 e26 hS=>?_
 refine fcps 1 rfl ?_
 refine f_g [7,36] rfl rfl rfl (gF rfl) rfl rfl (fun e0 w X=>have H:=H.ext X;lA H 3 A33 Z33 O17) ?_
 obtain ⟨y27,f27,hS⟩:=bo hS
 refine f_gd (V:=.int .i64 y27) [37,36] rfl rfl rfl (gF rfl) rfl rfl (fun e0 w X=>have Hs:=ZB.of H.zin X;have H:=H.ext X;d_call [_] (evs_c (eg e0 rfl) evs_n) call39 (tree_Size_ok KK (ifT e0 f27) (ZB.inn H.zin) (r26_18_1.sub Hs) (hG.ext H.out))) ?_
 refine f_g [5,36] rfl rfl rfl (gF rfl) rfl rfl (fun e0 w X=>have H:=H.ext X;lA H 1 A33 Z33 O17) ?_
 obtain ⟨y28,f28,hS⟩:=bo hS
 refine f_gd (V:=.int .i64 y28) [39,36] rfl rfl rfl (gF rfl) rfl rfl (fun e0 w X=>have Hs:=ZB.of H.zin X;have H:=H.ext X;d_call [_] (evs_c (eg e0 rfl) evs_n) call39 (tree_Size_ok KK (ifT e0 f28) (ZB.inn H.zin) (r20_12_1.sub Hs) (hG.ext H.out))) ?_
 obtain ⟨z29,e29,hS⟩:=bv hS
 refine f_g [38,40,36] rfl rfl rfl (gF rfl) rfl rfl (fun e0 w X=>vB e29 (v_gt (eg e0 rfl) (eg e0 rfl))) ?_
 refine fB hS rfl (fun w X=>v_or rfl rfl) fun z30 e30 hS=>?_
 refine fcps 1 rfl ?_
 refine f_g [5,43] rfl rfl rfl (gF rfl) rfl rfl (fun e0 w X=>have H:=H.ext X;lA H 1 A33 Z33 O17) ?_
 refine f_g [7,43] rfl rfl rfl (gF rfl) rfl rfl (fun e0 w X=>have H:=H.ext X;lA H 3 A33 Z33 O17) ?_
 obtain ⟨y31,f31,hS⟩:=bo hS
 refine f_gd (V:=.bool y31) [44,45,43] rfl rfl rfl (gF rfl) rfl rfl (fun e0 w X=>have Hs:=ZB.of H.zin X;have H:=H.ext X;d_call O2 (evs_c (eg e0 rfl) (evs_c (eg e0 rfl) evs_n)) call40 (tree_Same_ok KK (ifT e0 f31) (ZB.inn H.zin) (r20_12_1.sub Hs) (r26_18_1.sub Hs) (hG.ext H.out))) ?_
 refine fB hS rfl (fun w X=>v_or rfl rfl) fun z32 e32 hS=>?_
 refine fE [5,7,47] O3 H fun a w X H h=>?_
 refine cI h hS rfl (fun ec33 hS=>?_) fun ec33 hS=>?_
 refine rg fun K k=>cps 1 h rfl fun a h=>cz k ?_
 cases hS
 refine r1 hr h rfl rfl ⟨rfl,H.out⟩
 refine c_skip<|sq<|rg fun K k=>s1 h rfl (v_fieldAddr rfl U33 rfl Z3 rfl rfl) fun a h=>?_
 refine s1 h rfl (l1 H 3 A3) fun a h=>?_
 refine s1 h rfl (v_fieldAddr rfl U33 rfl Z3 rfl rfl) fun a h=>?_
 refine s1 h rfl (l1 H 1 A3) fun a h=>?_
 refine sB h hS rfl (v_ne rfl rfl) fun z35 e35 hS a h=>?_
 refine cps 1 h rfl fun a h=>st_g h rfl rfl (gF rfl) rfl rfl (fun e0=>v_fieldAddr rfl U33 rfl Z31 rfl rfl) fun a h=>?_
 refine st_g h rfl rfl (gF rfl) rfl rfl (fun e0=>v_load1 (eg e0 rfl) A31 (H.hp.get 3 rfl) rfl) fun a h=>?_
 refine st_g h rfl rfl (gF rfl) rfl rfl (fun e0=>v_lenN U31 (eg e0 rfl) r26_18_1 H.zin) fun a h=>?_
 refine st_g h rfl rfl (gF rfl) rfl rfl (fun e0=>v_fieldAddr rfl U33 rfl Z31 rfl rfl) fun a h=>?_
 refine st_g h rfl rfl (gF rfl) rfl rfl (fun e0=>v_load1 (eg e0 rfl) A31 (H.hp.get 1 rfl) rfl) fun a h=>?_
 refine st_g h rfl rfl (gF rfl) rfl rfl (fun e0=>v_lenN U31 (eg e0 rfl) r20_12_1 H.zin) fun a h=>?_
 obtain ⟨z36,e36,hS⟩:=bv hS
 refine st_g h rfl rfl (gF rfl) rfl rfl (fun e0=>vB e36 (v_ne (eg e0 rfl) (eg e0 rfl))) fun a h=>?_
 refine sB h hS rfl (v_or rfl rfl) fun z37 e37 hS a h=>?_
 refine cN k h [5,7,61] O3 fun h=>?_
 refine cI h hS rfl (fun ec38 hS=>?_) fun ec38 hS=>?_
 refine rg fun K k=>cps 1 h rfl fun a h=>cz k ?_
 cases hS
 refine r1 hr h rfl rfl ⟨rfl,H.out⟩
 refine c_skip<|rg fun K k=>cps 1 h rfl fun a h=>cz k ?_
 obtain ⟨J40,eJ40,hS⟩:=bv hS
 refine sqJ (fun a w=>∃ (Z:FZ) (s40:Int),J40 s40=some res∧Fr 105 [(5,(pt p13)),(8,.int .i64 s40)] a∧HZ w0 Zi Z [.blk p1 (Cel [sv_12] 23),.blk p13 (Cel (nL y11.1 v20_12_1) 33),.row 0 1 (.slice none 0 0) 0 [],.blk p19 (Cel (nL y17 v26_18_1) 33)] w∧RdZ Z sv_12 1 (eI .u8) y11.2∧RdN Z v20_12_1 nodeEnc y11.1.l∧RdN Z v26_18_1 nodeEnc y17.l∧Z p15=some (Cel ((y14:List V).flatMap vL) 39)) ?_ ?_
 rintro a w ⟨Z,s40,hS,h,H,rs_12,r20_12_1,r26_18_1,hz2_16⟩
 subst eJ40
 refine rg fun K k=>cps 1 h rfl fun a h=>sB h hS rfl (v_eq rfl rfl) fun z41 e41 hS a h=>?_
 refine cps 1 h rfl fun a h=>st_g h rfl rfl (gF rfl) rfl rfl (fun e0=>v_fieldAddr rfl U33 rfl Z3 rfl rfl) fun a h=>?_
 refine st_g h rfl rfl (gF rfl) rfl rfl (fun e0=>v_load1 (eg e0 rfl) A3 (H.hp.get 1 rfl) rfl) fun a h=>?_
 obtain ⟨z42,e42,hS⟩:=bv hS
 refine st_g h rfl rfl (gF rfl) rfl rfl (fun e0=>vB e42 (v_eq (eg e0 rfl) rfl)) fun a h=>?_
 refine sB h hS rfl (v_or rfl rfl) fun z43 e43 hS a h=>?_
 refine cps 1 h rfl fun a h=>st_g h rfl rfl (gF rfl) rfl rfl (fun e0=>v_fieldAddr rfl U33 rfl Z3 rfl rfl) fun a h=>?_
 refine st_g h rfl rfl (gF rfl) rfl rfl (fun e0=>v_load1 (eg e0 rfl) A3 (H.hp.get 1 rfl) rfl) fun a h=>?_
 obtain ⟨z44,e44,hS⟩:=bv hS
 refine st_g h rfl rfl (gF rfl) rfl rfl (fun e0=>vB e44 (v_ne (eg e0 rfl) rfl)) fun a h=>?_
 refine st_g h rfl rfl (gF rfl) rfl rfl (fun e0=>v_move (eg e0 rfl)) fun a h=>?_
 refine st_g h rfl rfl (ggT rfl) rfl rfl (fun e0=>v_move rfl) fun a h=>?_
 obtain ⟨z45,e45,hS⟩:=bv hS
 refine st_g h rfl rfl (ggT rfl) rfl rfl (fun e0=>vB e45 (v_le (eg e0 rfl) rfl)) fun a h=>?_
 obtain ⟨z46,e46,hS⟩:=bv hS
 refine st_g h rfl rfl (gF rfl) rfl rfl (fun e0=>vB e46 (v_and (eg e0 rfl) (egn e0 rfl))) fun a h=>?_
 refine sB h hS rfl (v_or rfl rfl) fun z47 e47 hS a h=>?_
 refine cps 1 h rfl fun a h=>st_g h rfl rfl (gF rfl) rfl rfl (fun e0=>v_fieldAddr rfl U33 rfl Z31 rfl rfl) fun a h=>?_
 refine st_g h rfl rfl (gF rfl) rfl rfl (fun e0=>v_load1 (eg e0 rfl) A31 (H.hp.get 1 rfl) rfl) fun a h=>?_
 refine st_g h rfl rfl (gF rfl) rfl rfl (fun e0=>v_lenN U31 (eg e0 rfl) r20_12_1 H.zin) fun a h=>?_
 obtain ⟨z48,e48,hS⟩:=bv hS
 refine st_g h rfl rfl (gF rfl) rfl rfl (fun e0=>vB e48 (v_eq (eg e0 rfl) rfl)) fun a h=>?_
 refine sB h hS rfl (v_or rfl rfl) fun z49 e49 hS a h=>?_
 refine cps 1 h rfl fun a h=>cN k h [4] [_] fun h=>?_
 cases hS
 refine r1 hr h rfl rfl ⟨rfl,H.out⟩
 refine rg fun K k=>s1 h rfl (v_fieldAddr rfl U33 rfl Z31 rfl rfl) fun a h=>?_
 refine s1 h rfl (l1 H 1 A31) fun a h=>?_
 refine s1 h rfl (v_lenN U31 rfl r20_12_1 H.zin) fun a h=>?_
 refine cps 1 h rfl fun a h=>cz k<|lb ?_
 obtain ⟨B51,eB51,hS⟩:=bv hS
 refine lpJ (fun mu_ a w=>∃ (Z:FZ) (s51:Int × Int),loopF B51 mu_ s51=some res∧Fr 105 [(5,(pt p13)),(7,(pt p19)),(8,.int .i64 s51.1),(64,.int .i64 (y11.1.l.length:Int)),(65,.int .i64 s51.2)] a∧HZ w0 Zi Z [.blk p1 (Cel [sv_12] 23),.blk p13 (Cel (nL y11.1 v20_12_1) 33),.row 0 1 (.slice none 0 0) 0 [],.blk p19 (Cel (nL y17 v26_18_1) 33)] w∧RdZ Z sv_12 1 (eI .u8) y11.2∧RdN Z v20_12_1 nodeEnc y11.1.l∧RdN Z v26_18_1 nodeEnc y17.l∧Z p15=some (Cel ((y14:List V).flatMap vL) 39)) KK ⟨_,_,hS,h.to,H,rs_12,r20_12_1,r26_18_1,hz2_16⟩ ?_
 rintro mu_ a w ⟨Z,s51,hS,h,H,rs_12,r20_12_1,r26_18_1,hz2_16⟩
 obtain ⟨mu_,rfl,n51,en51,hS⟩:=lpX eB51 hS
 refine rg fun K k=>sB h hS rfl (v_lt rfl rfl) fun z53 e53 hS a h=>?_
 refine cz k<|sq<|cI h hS rfl (fun ec55 hS=>?_) fun ec55 hS=>?_
 refine c_skip<|sb ?_
 refine rg fun K k=>cps 2 h rfl fun a h=>cz k<|fl h ?_
 refine F1 rfl (fun w X=>v_fieldAddr rfl U33 rfl Z31 rfl rfl) ?_
 refine F1 rfl (fun w X=>have H:=H.ext X;l1 H 1 A31) ?_
 refine fcps 1 rfl ?_
 obtain ⟨c57,hS⟩:=ck hS
 obtain ⟨z58,e58,hS⟩:=bv hS
 have q_59:=r20_12_1.gel ⟨_,nodeEnc_dflt⟩ s51.2
 rw [←e58] at q_59
 obtain ⟨css_59,cl_59,rc_59,hc_59,q_59⟩:=q_59
 obtain ⟨v71_59_1,hcs_59,r71_59_1⟩:=node_op q_59
 refine f_op [69,70] rfl rfl rfl rfl false (.rel (fun w' v'=>At w' v' (fun _:Unit=>(nL z58 v71_59_1)) () 0)) at_stab (fun w X=>?_) ?_
 skip
 exact have H:=H.ext X;d_idxC U31 Z33 rfl rfl (rc_59.at H.zin) c57.1 (hc_59 c57) hcs_59
 refine f_op [71] rfl rfl rfl rfl false (.eq (nA z58 v71_59_1)) trivial (fun w X=>?_) ?_
 intro v71 h71
 exact (v_loadAtA O17 rfl h71 A33 Z33 rfl rfl).doesF
 refine F1 rfl (fun w X=>v_fieldAddr rfl U33 rfl Z31 rfl rfl) ?_
 refine F1 rfl (fun w X=>have H:=H.ext X;l1 H 3 A31) ?_
 refine fcps 1 rfl ?_
 obtain ⟨c60,hS⟩:=ck hS
 obtain ⟨z61,e61,hS⟩:=bv hS
 have q_62:=r26_18_1.gel ⟨_,nodeEnc_dflt⟩ s51.2
 rw [←e61] at q_62
 obtain ⟨css_62,cl_62,rc_62,hc_62,q_62⟩:=q_62
 obtain ⟨v76_62_1,hcs_62,r76_62_1⟩:=node_op q_62
 refine f_op [74,75] rfl rfl rfl rfl false (.rel (fun w' v'=>At w' v' (fun _:Unit=>(nL z61 v76_62_1)) () 0)) at_stab (fun w X=>?_) ?_
 skip
 exact have H:=H.ext X;d_idxC U31 Z33 rfl rfl (rc_62.at H.zin) c60.1 (hc_62 c60) hcs_62
 refine f_op [76] rfl rfl rfl rfl false (.eq (nA z61 v76_62_1)) trivial (fun w X=>?_) ?_
 intro v76 h76
 exact (v_loadAtA O17 rfl h76 A33 Z33 rfl rfl).doesF
 obtain ⟨y63,f63,hS⟩:=bo hS
 refine f2 (V:=.bool y63) [72,77] rfl rfl rfl rfl (fun w X=>have Hs:=ZB.of H.zin X;have H:=H.ext X;dC call40 (tree_Same_ok KK f63 (ZB.inn H.zin) (r71_59_1.sub Hs) (r76_62_1.sub Hs) (hG.ext H.out))) ?_
 refine fB hS rfl (fun w X=>v_not rfl) fun z64 e64 hS=>?_
 refine fE [5,7,8,64,65,79] O6 H fun a w X H h=>?_
 refine cI h hS rfl (fun ec65 hS=>?_) fun ec65 hS=>?_
 refine c_lregion<|cps 1 h rfl fun a h=>sI h hS rfl (v_addw rfl rfl) fun z66 e66 hS a h=>?_
 refine cps 1 h rfl fun a h=>c_lnil<|c_lregion<|sI h hS rfl (v_addw rfl rfl) fun z67 e67 hS a h=>?_
 refine cps 1 h rfl fun a h=>c_lnil ?_
 exact exL (ex2 ⟨lpN en51 hS,h.to,H,rs_12,r20_12_1,r26_18_1,hz2_16⟩)
 refine c_skip<|c_lregion<|sI h hS rfl (v_addw rfl rfl) fun z68 e68 hS a h=>?_
 refine cps 1 h rfl fun a h=>c_lnil ?_
 exact exL (ex2 ⟨lpN en51 hS,h.to,H,rs_12,r20_12_1,r26_18_1,hz2_16⟩)
 exact c_exit (ex2 ⟨hS,h.to,H,rs_12,r20_12_1,r26_18_1,hz2_16⟩)
end Go.Proofs.YtcecjdnkcbfhlaaGreatDoor
