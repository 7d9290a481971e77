/- Joined texts. -/
import Derived.Test.YtcecjdnkcbfhlaaGreatDoorEU0
import Derived.Test.YtcecjdnkcbfhlaaGreatDoorEWkPa
set_option linter.unusedSimpArgs false
set_option linter.unusedVariables false
set_option linter.unusedSectionVars false
namespace Go.Proofs.YtcecjdnkcbfhlaaGreatDoor
open Go.Stp Go.RowKit Go.ValP Go.Sp _root_.Go.Proofs.Tryz
set_option maxRecDepth 100000
theorem parse_Parse_ok {x0:List UInt8} {x1:Int} {res:Nd × Int × Int} {w0:World} (hS:parse_Parse x0 x1=some res) {Z:FZ} (hZ:Z.inn w0) (hG:GWL w0):Calls Tryz.prog 42 [S x0,.int .i64 x1].toArray w0 (Ret fun v w=>∃ u1,v=.tuple #[(nA res.1 u1),.int .i64 res.2.1,.int .i64 res.2.2]∧RdN (ZB Z w0.heap.size w) u1 nodeEnc res.1.l∧Ext w0 w):=by
 refine enSD hZ func42 [0,1] O2 fun Q a Zi eZi H h hd=>?_
 rw [←eZi] at hd
 clear eZi
 have hr:=hrO hd
 unfold parse_Parse at hS
 refine rg fun K k=>zA h H V33 O17 (fun x=>[x]) fun a p1 w X H h=>?_
 refine zA h H zeroValue3 [_] (fun x=>[_,x]) fun a p2 w X H h=>?_
 refine zA h H zeroValue84 [_] (fun x=>[_,_,x]) fun a p3 w X H h=>?_
 refine cz k<|rg fun K k=>cps 1 h rfl fun a h=>?_
 obtain ⟨y4,f4,hS⟩:=bo hS
 refine st2 h rfl rfl rfl (dC call69 (lex_All_ok (x0:=x0) f4 (hG.ext H.out))) ?_
 rintro v_ w ⟨v11_5_1,rfl,r11_5_1,X⟩ a h
 obtain ⟨Z,hsub,hadd,H⟩:=H.adopt' X
 have r11_5_1:=r11_5_1.sub (ZB.empty.trans hadd)
 refine cps 5 h rfl fun a h=>zS h H 1 Z3 [_] [_] O3 fun w H=>?_
 refine zS h H 2 sizeOf84 [_] [_] O3 fun w H=>?_
 refine cN k h [0,1,4,5,6,7] O6 fun h=>?_
 refine sq<|rg fun K k=>s1 h rfl (l1 H 2 isAgg84) fun a h=>sB h hS rfl (v_ne rfl rfl) fun z7 e7 hS a h=>cz k<|cI h hS rfl (fun ec8 hS=>?_) fun ec8 hS=>?_
 exact nomatch hS
 refine c_skip<|rg fun K k=>s1 (V:=.func (.func 70) #[] [(pt p1),(pt p2),(pt p3)].toArray) h rfl (v_makeFunc O3 rfl) fun a h=>st_defer h rfl (fun a h=>?_)
 refine cz k<|rg fun K k=>cps 3 h rfl fun a h=>s1 h rfl (v_slen U9 rfl) fun a h=>s1 h rfl (v_build bld126 [v11_5_1,.int .i64 x1,.int .i64 (x0.length:Int)] [v11_5_1,.int .i64 x1,.int .i64 (x0.length:Int),.int .i64 0] rfl (by obtain ⟨_,_,_,e_⟩:=(r11_5_1).form;subst e_;rfl)) fun a h=>z_box h H rfl O4 rfl rfl fun a p9 w X H h=>?_
 have H:HZ w0 _ _ O4 _:=H
 refine cps 1 h rfl fun a h=>cN k h [4,5,6,8] O4 fun h=>?_
 refine rg fun K k=>cps 1 h rfl fun a h=>?_
 obtain ⟨y10,f10,hS⟩:=bo hS
 refine st2 h rfl rfl rfl (dC call71 (parse_parser_expr_ok KK f10 H.zin r11_5_1 (H.hp.get 3 rfl) (H.offI 3 rfl _ rfl) rfl rfl (hG.ext H.out))) ?_
 rintro v_ w ⟨v28_11_1,rfl,r28_11_1,⟨sv_11,hm_11,rs_11⟩,X⟩ a h
 obtain ⟨Z,hsub,hadd,H⟩:=H.lentB 3 rfl hm_11 X (hl':=O4) rfl
 have r28_11_1:=r28_11_1.sub hadd
 have rs_11:=rs_11.sub hadd
 have H:HZ w0 _ _ O4 _:=H
 refine z_store h H 0 rfl rfl rfl Z33 O17 rfl rfl (by obtain ⟨_,_,_,e_⟩:=(r28_11_1).form;subst e_;rfl) (by simp) O17 rfl (hl':=O4) rfl fun w H=>?_
 refine cz k<|sq<|rg fun K k=>cps 1 h rfl fun a h=>s1 h rfl (v_nilCheck rfl) fun a h=>s1 h rfl (v_fieldAddr rfl U126 rfl Z118 rfl rfl) fun a h=>s1 h rfl (l1 H 3 isAgg118) fun a h=>s1 h rfl (v_len U118 rfl (rs_11.at H.zin)) fun a h=>sB h hS rfl (v_gt rfl rfl) fun z13 e13 hS a h=>cN k h [4,5,6,34] O4 fun h=>?_
 refine cI h hS rfl (fun ec14 hS=>?_) fun ec14 hS=>?_
 exact nomatch hS
 refine c_skip<|rg fun K k=>s1 h rfl (lA H 0 A33 Z33 O17) fun a h=>z_store h H 0 rfl rfl rfl Z33 O17 rfl rfl (by obtain ⟨_,_,_,e_⟩:=(r28_11_1).form;subst e_;rfl) (by simp) O17 rfl (hl':=O4) rfl fun w H=>?_
 refine zS h H 1 Z3 [_] [_] O4 fun w H=>?_
 refine zS h H 2 sizeOf84 [_] [_] O4 fun w H=>?_
 refine cz k ?_
 cases hS
 refine rD hd h parse_inv parse_idle fun a w X h=>?_
 have H:=H.ext X
 exact out3 h rfl (rvA H 0 A33 Z33 O17) (rv1 H 1 A3) (rv1 H 2 isAgg84) ⟨_,rfl,r28_11_1.sub H.back,H.out⟩
end Go.Proofs.YtcecjdnkcbfhlaaGreatDoor
