/- Joined texts. -/
import Derived.Test.YtcecjdnkcbfhlaaGreatDoorEFT
import Derived.Test.YtcecjdnkcbfhlaaGreatDoorEU0
import Derived.Test.YtcecjdnkcbfhlaaGreatDoorEWkEv
set_option linter.unusedSimpArgs false
set_option linter.unusedVariables false
set_option linter.unusedSectionVars false
namespace Go.Proofs.YtcecjdnkcbfhlaaGreatDoor
open Go.Stp Go.RowKit Go.ValP Go.Sp _root_.Go.Proofs.Tryz
set_option maxRecDepth 100000
theorem tree_Size_B_ok {rec:Nd→Option (Int)} (hrec:∀ {x0:Nd} {res:Int} {w0:World} (hS:rec x0=some res) {Z:FZ} (hZ:Z.inn w0) {xv0:Value} (rp0:RdN Z xv0 nodeEnc x0.l) (hG:GW w0),Calls Tryz.prog 39 [(nA x0 xv0)].toArray w0 (Ret fun v w=>v=.int .i64 res∧Ext w0 w)) {x0:Nd} {res:Int} {w0:World} (hS:tree_Size_B rec x0=some res) {Z:FZ} (hZ:Z.inn w0) {xv0:Value} (rp0:RdN Z xv0 nodeEnc x0.l) (hG:GW w0):Calls Tryz.prog 39 [(nA x0 xv0)].toArray w0 (Ret fun v w=>v=.int .i64 res∧Ext w0 w):=by
 refine enS hZ func39 [0] [_] fun Q a Zi eZi H h hr=>?_
 try rw [←eZi] at hr
 clear eZi
 unfold tree_Size_B at hS
 refine rg fun K k=>z_box h H rfl O17 rfl rfl fun a p1 w X H h=>?_
 have H:HZ w0 _ _ [_] _:=H
 refine cps 1 h rfl fun a h=>cz k<|rg fun K k=>cps 1 h rfl fun a h=>cz k ?_
 obtain ⟨J3,eJ3,hS⟩:=bv hS
 refine sqJ (fun a w=>∃ (Z:FZ) (s3:Int),J3 s3=some res∧Fr 19 [(3,.int .i64 s3)] a∧HZ w0 Zi Z [.blk p1 (Cel (nL x0 xv0) 33)] w∧RdN Z xv0 nodeEnc x0.l) ?_ ?_
 rintro a w ⟨Z,s3,hS,h,H,rp0⟩
 subst eJ3
 refine rg fun K k=>cps 2 h rfl fun a h=>cz k ?_
 cases hS
 refine r1 hr h rfl rfl ⟨rfl,H.out⟩
 refine rg fun K k=>s1 h rfl (v_fieldAddr rfl U33 rfl Z31 rfl rfl) fun a h=>s1 h rfl (l1 H 0 A31) fun a h=>s1 h rfl (v_lenN U31 rfl rp0 H.zin) fun a h=>cps 1 h rfl fun a h=>cN k h [3,7,8,9] O4 fun h=>?_
 refine lb ?_
 obtain ⟨B5,eB5,hS⟩:=bv hS
 refine lpJ (fun mu_ a w=>∃ (Z:FZ) (s5:Int × Int),loopF B5 mu_ s5=some res∧Fr 19 [(3,.int .i64 s5.1),(7,xv0),(8,.int .i64 (x0.l.length:Int)),(9,.int .i64 s5.2)] a∧HZ w0 Zi Z [.blk p1 (Cel (nL x0 xv0) 33)] w∧RdN Z xv0 nodeEnc x0.l) KK ⟨_,_,hS,h.to,H,rp0⟩ ?_
 rintro mu_ a w ⟨Z,s5,hS,h,H,rp0⟩
 obtain ⟨mu_,rfl,n5,en5,hS⟩:=lpX eB5 hS
 refine rg fun K k=>sB h hS rfl (v_lt rfl rfl) fun z7 e7 hS a h=>cz k<|sq<|cI h hS rfl (fun ec9 hS=>?_) fun ec9 hS=>?_
 refine c_skip<|sb ?_
 refine rg fun K k=>?_
 obtain ⟨c11,hS⟩:=ck hS
 obtain ⟨z12,e12,hS⟩:=bv hS
 have q_13:=rp0.gel ⟨_,nodeEnc_dflt⟩ s5.2
 rw [←e12] at q_13
 obtain ⟨css_13,cl_13,rc_13,hc_13,q_13⟩:=q_13
 obtain ⟨v11_13_1,hcs_13,r11_13_1⟩:=node_op q_13
 refine st_idxC h U31 Z33 rfl rfl (rc_13.at H.zin) c11.1 (hc_13 c11) hcs_13 rfl fun a v11 A11 h=>?_
 refine s1 h rfl (v_loadAtA O17 rfl A11 A33 Z33 rfl rfl) fun a h=>zA h H V33 O17 (fun x=>[_,x]) fun a p14 w X H h=>?_
 have A11:=At.ext A11 X
 refine z_store h H 1 rfl rfl rfl Z33 O17 rfl rfl (by obtain ⟨_,_,_,e_⟩:=(r11_13_1).form;subst e_;rfl) (by simp) O17 rfl (hl':=O2) rfl fun w H=>?_
 refine cz k<|c_lregion<|cps 1 h rfl fun a h=>s1 h rfl (lA H 1 A33 Z33 O17) fun a h=>?_
 obtain ⟨y15,f15,hS⟩:=bo hS
 refine st2v (T:=Ext) (V:=.int .i64 y15) h rfl rfl rfl (dC call39 (hrec f15 H.zin r11_13_1 (hG.ext H.out))) fun w X a h=>?_
 have H:=H.ext X
 refine sI h hS rfl (v_addw rfl rfl) fun z16 e16 hS a h=>cps 1 h rfl fun a h=>c_lnil<|cO h [3,7,8,9] O4 fun h=>?_
 refine c_lregion<|sI h hS rfl (v_addw rfl rfl) fun z17 e17 hS a h=>cps 1 h rfl fun a h=>c_lnil ?_
 exact exL (ex2 ⟨lpN en5 hS,h.to,(H.keepN 1 rfl),rp0⟩)
 exact c_exit (ex2 ⟨hS,h.to,H,rp0⟩)
theorem tree_Size_ok (k:Nat):∀ {x0:Nd} {res:Int} {w0:World} (hS:tree_Size k x0=some res) {Z:FZ} (hZ:Z.inn w0) {xv0:Value} (rp0:RdN Z xv0 nodeEnc x0.l) (hG:GW w0),Calls Tryz.prog 39 [(nA x0 xv0)].toArray w0 (Ret fun v w=>v=.int .i64 res∧Ext w0 w):=by
 induction k with
 |zero=>intro x0 res w0 hS;exact nomatch (show (none:Option (Int))=some res from hS)
 |succ k ih=>exact @tree_Size_B_ok (tree_Size k) @ih
theorem tree_Same_B_ok {rec:Nd→Nd→Option (Bool)} (hrec:∀ {x0:Nd} {x1:Nd} {res:Bool} {w0:World} (hS:rec x0 x1=some res) {Z:FZ} (hZ:Z.inn w0) {xv0:Value} (rp0:RdN Z xv0 nodeEnc x0.l) {xv1:Value} (rp1:RdN Z xv1 nodeEnc x1.l) (hG:GW w0),Calls Tryz.prog 40 [(nA x0 xv0),(nA x1 xv1)].toArray w0 (Ret fun v w=>v=.bool res∧Ext w0 w)) {x0:Nd} {x1:Nd} {res:Bool} {w0:World} (hS:tree_Same_B rec x0 x1=some res) {Z:FZ} (hZ:Z.inn w0) {xv0:Value} (rp0:RdN Z xv0 nodeEnc x0.l) {xv1:Value} (rp1:RdN Z xv1 nodeEnc x1.l) (hG:GW w0):Calls Tryz.prog 40 [(nA x0 xv0),(nA x1 xv1)].toArray w0 (Ret fun v w=>v=.bool res∧Ext w0 w):=by
 refine enS hZ func40 [0,1] O2 fun Q a Zi eZi H h hr=>?_
 try rw [←eZi] at hr
 clear eZi
 unfold tree_Same_B at hS
 refine rg fun K k=>z_box h H rfl O17 rfl rfl fun a p1 w X H h=>?_
 have H:HZ w0 _ _ [_] _:=H
 refine z_box h H rfl O17 rfl rfl fun a p2 w X H h=>?_
 have H:HZ w0 _ _ O2 _:=H
 refine cps 1 h rfl fun a h=>cz k<|sq<|rg fun K k=>s1 h rfl (v_fieldAddr rfl U33 rfl Z3 rfl rfl) fun a h=>s1 h rfl (l1 H 0 A3) fun a h=>s1 h rfl (v_fieldAddr rfl U33 rfl Z3 rfl rfl) fun a h=>s1 h rfl (l1 H 1 A3) fun a h=>sB h hS rfl (v_ne rfl rfl) fun z4 e4 hS a h=>cps 1 h rfl fun a h=>st_g h rfl rfl (gF rfl) rfl rfl (fun e0=>v_fieldAddr rfl U33 rfl Z3 rfl rfl) fun a h=>?_
 refine st_g h rfl rfl (gF rfl) rfl rfl (fun e0=>v_load1 (eg e0 rfl) A3 (H.hp.get 0 rfl) rfl) fun a h=>?_
 refine st_g h rfl rfl (gF rfl) rfl rfl (fun e0=>v_fieldAddr rfl U33 rfl Z3 rfl rfl) fun a h=>?_
 refine st_g h rfl rfl (gF rfl) rfl rfl (fun e0=>v_load1 (eg e0 rfl) A3 (H.hp.get 1 rfl) rfl) fun a h=>?_
 obtain ⟨z5,e5,hS⟩:=bv hS
 refine st_g h rfl rfl (gF rfl) rfl rfl (fun e0=>vB e5 (v_ne (eg e0 rfl) (eg e0 rfl))) fun a h=>?_
 refine sB h hS rfl (v_or rfl rfl) fun z6 e6 hS a h=>cps 1 h rfl fun a h=>st_g h rfl rfl (gF rfl) rfl rfl (fun e0=>v_fieldAddr rfl U33 rfl Z26 rfl rfl) fun a h=>?_
 refine st_g h rfl rfl (gF rfl) rfl rfl (fun e0=>v_loadA O3 (eg e0 rfl) A26 Z26 (H.hp.get 0 rfl) rfl rfl) fun a h=>?_
 refine st_g h rfl rfl (gF rfl) rfl rfl (fun e0=>v_fieldAddr rfl U33 rfl Z26 rfl rfl) fun a h=>?_
 refine st_g h rfl rfl (gF rfl) rfl rfl (fun e0=>v_loadA O3 (eg e0 rfl) A26 Z26 (H.hp.get 1 rfl) rfl rfl) fun a h=>?_
 obtain ⟨z7,e7,hS⟩:=bv hS
 refine st_g h rfl rfl (gF rfl) rfl rfl (fun e0=>vB e7 (v_aggne (eg e0 rfl) (eg e0 rfl) age26 (agq26 _ _ _ _ _ _))) fun a h=>?_
 refine sB h hS rfl (v_or rfl rfl) fun z8 e8 hS a h=>cps 1 h rfl fun a h=>st_g h rfl rfl (gF rfl) rfl rfl (fun e0=>v_fieldAddr rfl U33 rfl Z30 rfl rfl) fun a h=>?_
 refine st_g h rfl rfl (gF rfl) rfl rfl (fun e0=>v_loadA O5 (eg e0 rfl) isAgg30 Z30 (H.hp.get 0 rfl) rfl rfl) fun a h=>?_
 refine st_g h rfl rfl (gF rfl) rfl rfl (fun e0=>v_fieldAddr rfl U33 rfl Z30 rfl rfl) fun a h=>?_
 refine st_g h rfl rfl (gF rfl) rfl rfl (fun e0=>v_loadA O5 (eg e0 rfl) isAgg30 Z30 (H.hp.get 1 rfl) rfl rfl) fun a h=>?_
 obtain ⟨z9,e9,hS⟩:=bv hS
 refine st_g h rfl rfl (gF rfl) rfl rfl (fun e0=>vB e9 (v_aggne (eg e0 rfl) (eg e0 rfl) age30 (agq30 _ _ _ _ _ _ _ _ _ _))) fun a h=>?_
 refine sB h hS rfl (v_or rfl rfl) fun z10 e10 hS a h=>cps 1 h rfl fun a h=>st_g h rfl rfl (gF rfl) rfl rfl (fun e0=>v_fieldAddr rfl U33 rfl Z30 rfl rfl) fun a h=>?_
 refine st_g h rfl rfl (gF rfl) rfl rfl (fun e0=>v_loadA O5 (eg e0 rfl) isAgg30 Z30 (H.hp.get 0 rfl) rfl rfl) fun a h=>?_
 refine st_g h rfl rfl (gF rfl) rfl rfl (fun e0=>v_fieldAddr rfl U33 rfl Z30 rfl rfl) fun a h=>?_
 refine st_g h rfl rfl (gF rfl) rfl rfl (fun e0=>v_loadA O5 (eg e0 rfl) isAgg30 Z30 (H.hp.get 1 rfl) rfl rfl) fun a h=>?_
 obtain ⟨z11,e11,hS⟩:=bv hS
 refine st_g h rfl rfl (gF rfl) rfl rfl (fun e0=>vB e11 (v_aggne (eg e0 rfl) (eg e0 rfl) age30 (agq30 _ _ _ _ _ _ _ _ _ _))) fun a h=>?_
 refine sB h hS rfl (v_or rfl rfl) fun z12 e12 hS a h=>cps 1 h rfl fun a h=>st_g h rfl rfl (gF rfl) rfl rfl (fun e0=>v_fieldAddr rfl U33 rfl Z9 rfl rfl) fun a h=>?_
 refine st_g h rfl rfl (gF rfl) rfl rfl (fun e0=>v_load1 (eg e0 rfl) A9 (H.hp.get 0 rfl) rfl) fun a h=>?_
 refine st_g h rfl rfl (gF rfl) rfl rfl (fun e0=>v_fieldAddr rfl U33 rfl Z9 rfl rfl) fun a h=>?_
 refine st_g h rfl rfl (gF rfl) rfl rfl (fun e0=>v_load1 (eg e0 rfl) A9 (H.hp.get 1 rfl) rfl) fun a h=>?_
 obtain ⟨z13,e13,hS⟩:=bv hS
 refine st_g h rfl rfl (gF rfl) rfl rfl (fun e0=>vB e13 (v_sne (eg e0 rfl) (eg e0 rfl))) fun a h=>?_
 refine sB h hS rfl (v_or rfl rfl) fun z14 e14 hS a h=>cps 1 h rfl fun a h=>st_g h rfl rfl (gF rfl) rfl rfl (fun e0=>v_fieldAddr rfl U33 rfl Z31 rfl rfl) fun a h=>?_
 refine st_g h rfl rfl (gF rfl) rfl rfl (fun e0=>v_load1 (eg e0 rfl) A31 (H.hp.get 0 rfl) rfl) fun a h=>?_
 refine st_g h rfl rfl (gF rfl) rfl rfl (fun e0=>v_lenN U31 (eg e0 rfl) rp0 H.zin) fun a h=>?_
 refine st_g h rfl rfl (gF rfl) rfl rfl (fun e0=>v_fieldAddr rfl U33 rfl Z31 rfl rfl) fun a h=>?_
 refine st_g h rfl rfl (gF rfl) rfl rfl (fun e0=>v_load1 (eg e0 rfl) A31 (H.hp.get 1 rfl) rfl) fun a h=>?_
 refine st_g h rfl rfl (gF rfl) rfl rfl (fun e0=>v_lenN U31 (eg e0 rfl) rp1 H.zin) fun a h=>?_
 obtain ⟨z15,e15,hS⟩:=bv hS
 refine st_g h rfl rfl (gF rfl) rfl rfl (fun e0=>vB e15 (v_ne (eg e0 rfl) (eg e0 rfl))) fun a h=>?_
 refine sB h hS rfl (v_or rfl rfl) fun z16 e16 hS a h=>cN k h [2,3,54] O3 fun h=>?_
 refine cI h hS rfl (fun ec17 hS=>?_) fun ec17 hS=>?_
 refine rg fun K k=>cps 1 h rfl fun a h=>cz k ?_
 cases hS
 refine r1 hr h rfl rfl ⟨rfl,H.out⟩
 refine c_skip ?_
 obtain ⟨J19,eJ19,hS⟩:=bv hS
 refine sqJ (fun a w=>∃ (Z:FZ) (s19:Unit),J19 s19=some res∧Fr 74 [] a∧HZ w0 Zi Z [.blk p1 (Cel (nL x0 xv0) 33),.blk p2 (Cel (nL x1 xv1) 33)] w∧RdN Z xv0 nodeEnc x0.l∧RdN Z xv1 nodeEnc x1.l) ?_ ?_
 rintro a w ⟨Z,s19,hS,h,H,rp0,rp1⟩
 subst eJ19
 refine rg fun K k=>cps 1 h rfl fun a h=>cz k ?_
 cases hS
 refine r1 hr h rfl rfl ⟨rfl,H.out⟩
 refine rg fun K k=>s1 h rfl (v_fieldAddr rfl U33 rfl Z31 rfl rfl) fun a h=>s1 h rfl (l1 H 0 A31) fun a h=>s1 h rfl (v_lenN U31 rfl rp0 H.zin) fun a h=>cps 1 h rfl fun a h=>cz k<|lb ?_
 obtain ⟨B21,eB21,hS⟩:=bv hS
 refine lpJ (fun mu_ a w=>∃ (Z:FZ) (s21:Int),loopF B21 mu_ s21=some res∧Fr 74 [(2,(pt p1)),(3,(pt p2)),(57,.int .i64 (x0.l.length:Int)),(58,.int .i64 s21)] a∧HZ w0 Zi Z [.blk p1 (Cel (nL x0 xv0) 33),.blk p2 (Cel (nL x1 xv1) 33)] w∧RdN Z xv0 nodeEnc x0.l∧RdN Z xv1 nodeEnc x1.l) KK ⟨_,_,hS,h.to,H,rp0,rp1⟩ ?_
 rintro mu_ a w ⟨Z,s21,hS,h,H,rp0,rp1⟩
 obtain ⟨mu_,rfl,n21,en21,hS⟩:=lpX eB21 hS
 refine rg fun K k=>sB h hS rfl (v_lt rfl rfl) fun z23 e23 hS a h=>cz k<|sq<|cI h hS rfl (fun ec25 hS=>?_) fun ec25 hS=>?_
 refine c_skip<|sb ?_
 refine rg fun K k=>cps 2 h rfl fun a h=>cz k<|fl h ?_
 refine F1 rfl (fun w X=>v_fieldAddr rfl U33 rfl Z31 rfl rfl) ?_
 refine F1 rfl (fun w X=>have H:=H.ext X;l1 H 0 A31) ?_
 refine fcps 1 rfl ?_
 obtain ⟨c27,hS⟩:=ck hS
 obtain ⟨z28,e28,hS⟩:=bv hS
 have q_29:=rp0.gel ⟨_,nodeEnc_dflt⟩ s21
 rw [←e28] at q_29
 obtain ⟨css_29,cl_29,rc_29,hc_29,q_29⟩:=q_29
 obtain ⟨v64_29_1,hcs_29,r64_29_1⟩:=node_op q_29
 refine f_op [62,63] rfl rfl rfl rfl false (.rel (fun w' v'=>At w' v' (fun _:Unit=>(nL z28 v64_29_1)) () 0)) at_stab (fun w X=>?_) ?_
 skip
 exact have H:=H.ext X;d_idxC U31 Z33 rfl rfl (rc_29.at H.zin) c27.1 (hc_29 c27) hcs_29
 refine f_op [64] rfl rfl rfl rfl false (.eq (nA z28 v64_29_1)) trivial (fun w X=>?_) ?_
 intro v64 h64
 exact (v_loadAtA O17 rfl h64 A33 Z33 rfl rfl).doesF
 refine F1 rfl (fun w X=>v_fieldAddr rfl U33 rfl Z31 rfl rfl) ?_
 refine F1 rfl (fun w X=>have H:=H.ext X;l1 H 1 A31) ?_
 refine fcps 1 rfl ?_
 obtain ⟨c30,hS⟩:=ck hS
 obtain ⟨z31,e31,hS⟩:=bv hS
 have q_32:=rp1.gel ⟨_,nodeEnc_dflt⟩ s21
 rw [←e31] at q_32
 obtain ⟨css_32,cl_32,rc_32,hc_32,q_32⟩:=q_32
 obtain ⟨v69_32_1,hcs_32,r69_32_1⟩:=node_op q_32
 refine f_op [67,68] rfl rfl rfl rfl false (.rel (fun w' v'=>At w' v' (fun _:Unit=>(nL z31 v69_32_1)) () 0)) at_stab (fun w X=>?_) ?_
 skip
 exact have H:=H.ext X;d_idxC U31 Z33 rfl rfl (rc_32.at H.zin) c30.1 (hc_32 c30) hcs_32
 refine f_op [69] rfl rfl rfl rfl false (.eq (nA z31 v69_32_1)) trivial (fun w X=>?_) ?_
 intro v69 h69
 exact (v_loadAtA O17 rfl h69 A33 Z33 rfl rfl).doesF
 obtain ⟨y33,f33,hS⟩:=bo hS
 refine f2 (V:=.bool y33) [65,70] rfl rfl rfl rfl (fun w X=>have Hs:=ZB.of H.zin X;have H:=H.ext X;dC call40 (hrec f33 (ZB.inn H.zin) (r64_29_1.sub Hs) (r69_32_1.sub Hs) (hG.ext H.out))) ?_
 refine fB hS rfl (fun w X=>v_not rfl) fun z34 e34 hS=>?_
 refine fE [2,3,57,58,72] O5 H fun a w X H h=>?_
 refine cI h hS rfl (fun ec35 hS=>?_) fun ec35 hS=>?_
 refine rg fun K k=>cps 1 h rfl fun a h=>cN k h [4] [_] fun h=>?_
 cases hS
 refine r1 hr h rfl rfl ⟨rfl,H.out⟩
 refine c_skip<|c_lregion<|sI h hS rfl (v_addw rfl rfl) fun z36 e36 hS a h=>cps 1 h rfl fun a h=>c_lnil ?_
 exact exL (ex2 ⟨lpN en21 hS,h.to,H,rp0,rp1⟩)
 exact c_exit (exU1 ⟨hS,h.to,H,rp0,rp1⟩)
theorem tree_Same_ok (k:Nat):∀ {x0:Nd} {x1:Nd} {res:Bool} {w0:World} (hS:tree_Same k x0 x1=some res) {Z:FZ} (hZ:Z.inn w0) {xv0:Value} (rp0:RdN Z xv0 nodeEnc x0.l) {xv1:Value} (rp1:RdN Z xv1 nodeEnc x1.l) (hG:GW w0),Calls Tryz.prog 40 [(nA x0 xv0),(nA x1 xv1)].toArray w0 (Ret fun v w=>v=.bool res∧Ext w0 w):=by
 induction k with
 |zero=>intro x0 x1 res w0 hS;exact nomatch (show (none:Option (Bool))=some res from hS)
 |succ k ih=>exact @tree_Same_B_ok (tree_Same k) @ih
end Go.Proofs.YtcecjdnkcbfhlaaGreatDoor
