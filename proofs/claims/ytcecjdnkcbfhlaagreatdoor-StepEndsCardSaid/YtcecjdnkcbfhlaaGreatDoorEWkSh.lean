/- Joined texts. -/
import Derived.Test.YtcecjdnkcbfhlaaGreatDoorEU0
import Derived.Test.YtcecjdnkcbfhlaaGreatDoorEWkPr
set_option linter.unusedSimpArgs false
set_option linter.unusedVariables false
set_option linter.unusedSectionVars false
namespace Go.Proofs.YtcecjdnkcbfhlaaGreatDoor
open Go.Stp Go.RowKit Go.ValP Go.Sp _root_.Go.Proofs.Tryz
set_option maxRecDepth 100000
theorem show_level_ok {x0:Int} {res:Int} {w0:World} (hS:show_level x0=some res):Calls Tryz.prog 106 [.int .i64 x0].toArray w0 (Ret fun v w=>v=.int .i64 res∧Ext w0 w):=by
 refine en func106 [0] [_] fun Q a Zi Z hzs H h hr=>?_
 clear hzs
 unfold show_level at hS
 refine rg fun K k=>cps 1 h rfl fun a h=>cz k<|sb ?_
 refine rg fun K k=>cps 1 h rfl fun a h=>sB h hS rfl (v_ge rfl rfl) fun z2 e2 hS a h=>cps 1 h rfl fun a h=>cz k<|cI h hS rfl (fun ec3 hS=>?_) fun ec3 hS=>?_
 exact nomatch hS
 refine rg fun K k=>cps 1 h rfl fun a h=>sB h hS rfl (v_eq rfl rfl) fun z4 e4 hS a h=>cps 1 h rfl fun a h=>cN k h [0,6] O2 fun h=>?_
 refine cI h hS rfl (fun ec5 hS=>?_) fun ec5 hS=>?_
 exact nomatch hS
 refine rg fun K k=>cps 1 h rfl fun a h=>sB h hS rfl (v_le rfl rfl) fun z6 e6 hS a h=>cps 1 h rfl fun a h=>cN k h [9] [_] fun h=>?_
 refine cI h hS rfl (fun ec7 hS=>?_) fun ec7 hS=>?_
 refine rg fun K k=>cps 1 h rfl fun a h=>cz k ?_
 cases hS
 refine r1 hr h rfl rfl ⟨rfl,H.out⟩
 refine c_skip<|rg fun K k=>cps 1 h rfl fun a h=>cz k ?_
 cases hS
 refine r1 hr h rfl rfl ⟨rfl,H.out⟩
theorem show_literal_ok {x0:V} {res:(List UInt8)} {w0:World} (hS:show_literal x0=some res) (hG:GW w0):Calls Tryz.prog 103 [(vA x0)].toArray w0 (Ret fun v w=>v=S res∧Ext w0 w):=by
 refine en func103 [0] [_] fun Q a Zi Z hzs H h hr=>?_
 clear hzs
 unfold show_literal at hS
 refine rg fun K k=>z_box h H rfl O3 rfl rfl fun a p1 w X H h=>?_
 have H:HZ w0 _ _ [_] _:=H
 refine cps 1 h rfl fun a h=>cz k<|sb ?_
 refine rg fun K k=>s1 h rfl (v_fieldAddr rfl U26 rfl Z3 rfl rfl) fun a h=>s1 h rfl (l1 H 0 A3) fun a h=>sB h hS rfl (v_eq rfl rfl) fun z3 e3 hS a h=>cps 1 h rfl fun a h=>cN k h [1,3] O2 fun h=>?_
 refine cI h hS rfl (fun ec4 hS=>?_) fun ec4 hS=>?_
 exact nomatch hS
 refine rg fun K k=>s1 h rfl (v_fieldAddr rfl U26 rfl Z3 rfl rfl) fun a h=>s1 h rfl (l1 H 0 A3) fun a h=>sB h hS rfl (v_eq rfl rfl) fun z5 e5 hS a h=>cps 1 h rfl fun a h=>cN k h [1,7] O2 fun h=>?_
 refine cI h hS rfl (fun ec6 hS=>?_) fun ec6 hS=>?_
 exact nomatch hS
 refine rg fun K k=>s1 h rfl (v_fieldAddr rfl U26 rfl Z3 rfl rfl) fun a h=>s1 h rfl (l1 H 0 A3) fun a h=>sB h hS rfl (v_eq rfl rfl) fun z7 e7 hS a h=>cps 1 h rfl fun a h=>st_g h rfl rfl (gT rfl) rfl rfl (fun e0=>v_fieldAddr rfl U26 rfl Z2 rfl rfl) fun a h=>?_
 refine st_g h rfl rfl (gT rfl) rfl rfl (fun e0=>v_load1 (eg e0 rfl) A2 (H.hp.get 0 rfl) rfl) fun a h=>?_
 obtain ⟨z8,e8,hS⟩:=bv hS
 refine st_g h rfl rfl (gT rfl) rfl rfl (fun e0=>vB e8 (v_lt (eg e0 rfl) rfl)) fun a h=>?_
 refine sB h hS rfl (v_and rfl rfl) fun z9 e9 hS a h=>cps 1 h rfl fun a h=>cN k h [1,16] O2 fun h=>?_
 refine cI h hS rfl (fun ec10 hS=>?_) fun ec10 hS=>?_
 exact nomatch hS
 refine c_skip<|rg fun K k=>s1 h rfl (lA H 0 A26 Z26 O3) fun a h=>sC h H hS rfl (fun y11 f11=>dC call119 (value_Show_ok f11 (hG.ext H.out) :)) fun y11 hS w X H a h=>?_
 refine cps 1 h rfl fun a h=>cN k h [2] [_] fun h=>?_
 cases hS
 refine r1 hr h rfl rfl ⟨rfl,H.out⟩
theorem show_text_B_ok {rec:Nd→Int→Int→Option ((List UInt8))} (hrec:∀ {x0:Nd} {x1:Int} {x2:Int} {res:(List UInt8)} {w0:World} (hS:rec x0 x1 x2=some res) {Z:FZ} (hZ:Z.inn w0) {xv0:Value} (rp0:RdN Z xv0 nodeEnc x0.l) (hG:GW w0),Calls Tryz.prog 73 [(nA x0 xv0),.int .i64 x1,.int .i64 x2].toArray w0 (Ret fun v w=>v=S res∧Ext w0 w)) {x0:Nd} {x1:Int} {x2:Int} {res:(List UInt8)} {w0:World} (hS:show_text_B rec x0 x1 x2=some res) {Z:FZ} (hZ:Z.inn w0) {xv0:Value} (rp0:RdN Z xv0 nodeEnc x0.l) (hG:GW w0):Calls Tryz.prog 73 [(nA x0 xv0),.int .i64 x1,.int .i64 x2].toArray w0 (Ret fun v w=>v=S res∧Ext w0 w):=by
 refine enS hZ func73 [0,1,2] O3 fun Q a Zi eZi H h hr=>?_
 try rw [←eZi] at hr
 clear eZi
 unfold show_text_B at hS
 refine rg fun K k=>z_box h H rfl O17 rfl rfl fun a p1 w X H h=>?_
 have H:HZ w0 _ _ [_] _:=H
 refine cps 1 h rfl fun a h=>cz k<|rg fun K k=>cps 2 h rfl fun a h=>cz k<|sq<|rg fun K k=>s1 h rfl (v_fieldAddr rfl U33 rfl Z3 rfl rfl) fun a h=>s1 h rfl (l1 H 0 A3) fun a h=>cz k<|lb<|rg fun K k=>sB h hS rfl (v_eq rfl rfl) fun z4 e4 hS a h=>cps 1 h rfl fun a h=>cN k h [1,2,3,7,8,13,40] O7 fun h=>?_
 refine cI h hS rfl (fun ec5 hS=>?_) fun ec5 hS=>?_
 refine rg fun K k=>s1 h rfl (v_fieldAddr rfl U33 rfl Z26 rfl rfl) fun a h=>s1 h rfl (lA H 0 A26 Z26 O3) fun a h=>sC h H hS rfl (fun y6 f6=>dC call103 (show_literal_ok f6 (hG.ext H.out) :)) fun y6 hS w X H a h=>?_
 refine cps 1 h rfl fun a h=>cN k h [6] [_] fun h=>?_
 cases hS
 refine r1 hr h rfl rfl ⟨rfl,H.out⟩
 refine rg fun K k=>sB h hS rfl (v_eq rfl rfl) fun z7 e7 hS a h=>cps 1 h rfl fun a h=>cz k<|cI h hS rfl (fun ec8 hS=>?_) fun ec8 hS=>?_
 exact nomatch hS
 refine rg fun K k=>sB h hS rfl (v_eq rfl rfl) fun z9 e9 hS a h=>cps 1 h rfl fun a h=>cN k h [1,2,3,7,8,13,51] O7 fun h=>?_
 refine cI h hS rfl (fun ec10 hS=>?_) fun ec10 hS=>?_
 exact nomatch hS
 refine rg fun K k=>sB h hS rfl (v_eq rfl rfl) fun z11 e11 hS a h=>cps 1 h rfl fun a h=>cz k<|cI h hS rfl (fun ec12 hS=>?_) fun ec12 hS=>?_
 exact nomatch hS
 refine rg fun K k=>sB h hS rfl (v_eq rfl rfl) fun z13 e13 hS a h=>cps 1 h rfl fun a h=>cN k h [1,2,3,7,8,13,70] O7 fun h=>?_
 refine cI h hS rfl (fun ec14 hS=>?_) fun ec14 hS=>?_
 exact nomatch hS
 refine rg fun K k=>sB h hS rfl (v_eq rfl rfl) fun z15 e15 hS a h=>cps 1 h rfl fun a h=>cz k<|cI h hS rfl (fun ec16 hS=>?_) fun ec16 hS=>?_
 exact nomatch hS
 refine rg fun K k=>sB h hS rfl (v_eq rfl rfl) fun z17 e17 hS a h=>cps 1 h rfl fun a h=>cN k h [1,2,3,7,8,108] O6 fun h=>?_
 refine cI h hS rfl (fun ec18 hS=>?_) fun ec18 hS=>?_
 exact nomatch hS
 refine rg fun K k=>s1 h rfl (v_fieldAddr rfl U33 rfl Z3 rfl rfl) fun a h=>s1 h rfl (l1 H 0 A3) fun a h=>sC h H hS rfl (fun y19 f19=>dC call106 (show_level_ok f19 :)) fun y19 hS w X H a h=>?_
 refine cps 1 h rfl fun a h=>cN k h [1,2,3,8] O4 fun h=>?_
 refine c_lflow h kR kR ?_
 refine F1 rfl (fun w X=>v_fieldAddr rfl U33 rfl Z31 rfl rfl) ?_
 refine F1 rfl (fun w X=>have H:=H.ext X;l1 H 0 A31) ?_
 obtain ⟨c20,hS⟩:=ck hS
 obtain ⟨z21,e21,hS⟩:=bv hS
 have q_22:=rp0.gel ⟨_,nodeEnc_dflt⟩ 0
 rw [←e21] at q_22
 obtain ⟨css_22,cl_22,rc_22,hc_22,q_22⟩:=q_22
 obtain ⟨v19_22_1,hcs_22,r19_22_1⟩:=node_op q_22
 refine f_op [18] rfl rfl rfl rfl false (.rel (fun w' v'=>At w' v' (fun _:Unit=>(nL z21 v19_22_1)) () 0)) at_stab (fun w X=>?_) ?_
 skip
 exact have H:=H.ext X;d_idxC U31 Z33 rfl rfl (rc_22.at H.zin) c20.1 (hc_22 c20) hcs_22
 refine f_op [19] rfl rfl rfl rfl false (.eq (nA z21 v19_22_1)) trivial (fun w X=>?_) ?_
 intro v19 h19
 exact (v_loadAtA O17 rfl h19 A33 Z33 rfl rfl).doesF
 refine fcps 2 rfl ?_
 obtain ⟨y23,f23,hS⟩:=bo hS
 refine f2 (V:=S y23) [20,21,22] rfl rfl rfl rfl (fun w X=>have Hs:=ZB.of H.zin X;have H:=H.ext X;dC call73 (hrec f23 (ZB.inn H.zin) (r19_22_1.sub Hs) (hG.ext H.out))) ?_
 obtain ⟨c25,hS⟩:=ck hS
 obtain ⟨z26,e26,hS⟩:=bv hS
 refine f_op [] rfl rfl rfl rfl false (.rel (fun w' v'=>RdZ (ZB Z w.heap.size w') v' 1 eS z26)) rd_stab (fun w X=>?_) ?_
 skip
 exact have Hs:=ZB.of H.zin X;have H:=H.ext X;Does.doesR (dC call64 (lib_fields c25 (hG.ext H.out))) (fun v w' hr=>⟨by rw [e26];exact hr.1.sub (ZB.back X hr.2),hr.2⟩)
 refine F1 rfl (fun w X=>v_fieldAddr rfl U33 rfl Z3 rfl rfl) ?_
 refine F1 rfl (fun w X=>have H:=H.ext X;l1 H 0 A3) ?_
 refine fI hS rfl (fun w X=>v_subw rfl rfl) fun z28 e28 hS=>?_
 obtain ⟨c29,hS⟩:=ck hS
 obtain ⟨z30,e30,hS⟩:=bv hS
 refine f_op [24,27] rfl rfl rfl rfl false (.rel (fun w' v'=>At w' v' eS z30 0)) at_stab (fun w X=>?_) ?_
 intro v24 h24
 exact have H:=H.ext X;d_idx U116 Z9 rfl rfl (h24.at (ZB.inn H.zin)) (fun _=>rfl) z30 c29.1 (by rw [e30];exact gel_some c29)
 refine f_op [28] rfl rfl rfl rfl false (.eq (S z30)) trivial (fun w X=>?_) ?_
 intro v28 h28
 exact (v_loadAt1 rfl h28 A9 rfl).doesF
 obtain ⟨c31,hS⟩:=ck hS
 refine fS hS rfl (fun w X=>v_sadd rfl rfl c31) fun z32 e32 hS=>?_
 refine F1 rfl (fun w X=>v_fieldAddr rfl U33 rfl Z31 rfl rfl) ?_
 refine F1 rfl (fun w X=>have H:=H.ext X;l1 H 0 A31) ?_
 obtain ⟨c33,hS⟩:=ck hS
 obtain ⟨z34,e34,hS⟩:=bv hS
 have q_35:=rp0.gel ⟨_,nodeEnc_dflt⟩ 1
 rw [←e34] at q_35
 obtain ⟨css_35,cl_35,rc_35,hc_35,q_35⟩:=q_35
 obtain ⟨v33_35_1,hcs_35,r33_35_1⟩:=node_op q_35
 refine f_op [32] rfl rfl rfl rfl false (.rel (fun w' v'=>At w' v' (fun _:Unit=>(nL z34 v33_35_1)) () 0)) at_stab (fun w X=>?_) ?_
 skip
 exact have H:=H.ext X;d_idxC U31 Z33 rfl rfl (rc_35.at H.zin) c33.1 (hc_35 c33) hcs_35
 refine f_op [33] rfl rfl rfl rfl false (.eq (nA z34 v33_35_1)) trivial (fun w X=>?_) ?_
 intro v33 h33
 exact (v_loadAtA O17 rfl h33 A33 Z33 rfl rfl).doesF
 refine fcps 2 rfl ?_
 refine fI hS rfl (fun w X=>v_addw rfl rfl) fun z36 e36 hS=>?_
 obtain ⟨y37,f37,hS⟩:=bo hS
 refine f2 (V:=S y37) [34,35,37] rfl rfl rfl rfl (fun w X=>have Hs:=ZB.of H.zin X;have H:=H.ext X;dC call73 (hrec f37 (ZB.inn H.zin) (r33_35_1.sub Hs) (hG.ext H.out))) ?_
 obtain ⟨c38,hS⟩:=ck hS
 refine fS hS rfl (fun w X=>v_sadd rfl rfl c38) fun z39 e39 hS=>?_
 refine fcps 1 rfl ?_
 refine fE [2,7,8] O3 H fun a w X H h=>?_
 refine sq<|rg fun K k=>cps 2 h rfl fun a h=>sB h hS rfl (v_lt rfl rfl) fun z41 e41 hS a h=>cN k h [7,133] O2 fun h=>?_
 refine cI h hS rfl (fun ec42 hS=>?_) fun ec42 hS=>?_
 exact nomatch hS
 refine c_skip<|rg fun K k=>cps 2 h rfl fun a h=>cz k ?_
 cases hS
 refine r1 hr h rfl rfl ⟨rfl,H.out⟩
theorem show_text_ok (k:Nat):∀ {x0:Nd} {x1:Int} {x2:Int} {res:(List UInt8)} {w0:World} (hS:show_text k x0 x1 x2=some res) {Z:FZ} (hZ:Z.inn w0) {xv0:Value} (rp0:RdN Z xv0 nodeEnc x0.l) (hG:GW w0),Calls Tryz.prog 73 [(nA x0 xv0),.int .i64 x1,.int .i64 x2].toArray w0 (Ret fun v w=>v=S res∧Ext w0 w):=by
 induction k with
 |zero=>intro x0 x1 x2 res w0 hS;exact nomatch (show (none:Option ((List UInt8)))=some res from hS)
 |succ k ih=>exact @show_text_B_ok (show_text k) @ih
theorem show_Formula_ok {x0:Nd} {x1:Int} {res:(List UInt8)} {w0:World} (hS:show_Formula x0 x1=some res) {xv0:Value} (rp0:RdN (hz w0) xv0 nodeEnc x0.l) (hG:GW w0):Calls Tryz.prog 43 [(nA x0 xv0),.int .i64 x1].toArray w0 (Ret fun v w=>v=S res∧Ext w0 w):=by
 refine en func43 [0,1] O2 fun Q a Zi Z hzs H h hr=>?_
 have rp0:=rp0.sub hzs
 clear hzs
 unfold show_Formula at hS
 refine rg fun K k=>z_box h H rfl O17 rfl rfl fun a p1 w X H h=>?_
 have H:HZ w0 _ _ [_] _:=H
 refine cps 1 h rfl fun a h=>cz k<|rg fun K k=>s1 h rfl (lA H 0 A33 Z33 O17) fun a h=>cps 1 h rfl fun a h=>?_
 obtain ⟨y2,f2,hS⟩:=bo hS
 refine st2v (T:=Ext) (V:=S y2) h rfl rfl rfl (dC call73 (show_text_ok KK f2 H.zin rp0 (hG.ext H.out))) fun w X a h=>?_
 have H:=H.ext X
 refine cps 1 h rfl fun a h=>cN k h [4] [_] fun h=>?_
 cases hS
 refine r1 hr h rfl rfl ⟨rfl,H.out⟩
end Go.Proofs.YtcecjdnkcbfhlaaGreatDoor
