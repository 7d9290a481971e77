/- Joined texts. -/
import Derived.Test.YtcecjdnkcbfhlaaGreatDoorEU0
import Derived.Test.YtcecjdnkcbfhlaaGreatDoorEWkSh
set_option linter.unusedSimpArgs false
set_option linter.unusedVariables false
set_option linter.unusedSectionVars false
namespace Go.Proofs.YtcecjdnkcbfhlaaGreatDoor
open Go.Stp Go.RowKit Go.ValP Go.Sp _root_.Go.Proofs.Tryz
set_option maxRecDepth 100000
theorem step_done_ok {x0:Nd} {res:Bool} {w0:World} (hS:step_done x0=some res) {xv0:Value} (rp0:RdN (hz w0) xv0 nodeEnc x0.l):Calls Tryz.prog 65 [(nA x0 xv0)].toArray w0 (Ret fun v w=>v=.bool res∧Ext w0 w):=by
 refine en func65 [0] [_] fun Q a Zi Z hzs H h hr=>?_
 have rp0:=rp0.sub hzs
 clear hzs
 unfold step_done at hS
 refine rg fun K k=>z_box h H rfl O17 rfl rfl fun a p1 w X H h=>?_
 have H:HZ w0 _ _ [_] _:=H
 refine cps 1 h rfl fun a h=>cz k<|rg fun K k=>s1 h rfl (v_fieldAddr rfl U33 rfl Z3 rfl rfl) fun a h=>s1 h rfl (l1 H 0 A3) fun a h=>sB h hS rfl (v_eq rfl rfl) fun z2 e2 hS a h=>cps 1 h rfl fun a h=>cN k h [2] [_] fun h=>?_
 cases hS
 refine r1 hr h rfl rfl ⟨rfl,H.out⟩
def HRWkSt0 (rec:Nd→(List V)→Option (Nd)):Prop:=∀ {x0:Nd} {x1:List V} {res:Nd} {w0:World} (hS:rec x0 x1=some res) {Z:FZ} (hZ:Z.inn w0) {xv0:Value} (rp0:RdN Z xv0 nodeEnc x0.l) {pb1:Nat} (hp1:Z pb1=some (Cel ((x1:List V).flatMap vL) 39)) (lp1:x1.length=128) (hG:GW w0),Calls Tryz.prog 41 [(nA x0 xv0),.iface 35 (pt pb1)].toArray w0 (Ret fun v w=>∃ u1,v=.agg #[.int .i64 res.k,.int .i64 res.op,.int .i64 res.v.k,.int .i64 res.v.n,S res.v.s,.int .i64 res.a.c.s,.int .i64 res.a.c.c,.int .i64 res.a.c.r,.bool res.a.ac,.bool res.a.ar,.int .i64 res.b.c.s,.int .i64 res.b.c.c,.int .i64 res.b.c.r,.bool res.b.ac,.bool res.b.ar,S res.nm,u1]∧RdN (ZB Z w0.heap.size w) u1 nodeEnc res.l∧Ext w0 w)
theorem step_at_ok {rec:Nd→(List V)→Option (Nd)} (hrec:HRWkSt0 rec) {x0:Nd} {x1:Int} {x2:List V} {res:Nd} {w0:World} (hS:step_at rec x0 x1 x2=some res) {Z:FZ} (hZ:Z.inn w0) {xv0:Value} (rp0:RdN Z xv0 nodeEnc x0.l) {pb2:Nat} (hp2:Z pb2=some (Cel ((x2:List V).flatMap vL) 39)) (lp2:x2.length=128) (hG:GW w0):Calls Tryz.prog 96 [(nA x0 xv0),.int .i64 x1,.iface 35 (pt pb2)].toArray w0 (Ret fun v w=>∃ u1,v=.agg #[.int .i64 res.k,.int .i64 res.op,.int .i64 res.v.k,.int .i64 res.v.n,S res.v.s,.int .i64 res.a.c.s,.int .i64 res.a.c.c,.int .i64 res.a.c.r,.bool res.a.ac,.bool res.a.ar,.int .i64 res.b.c.s,.int .i64 res.b.c.c,.int .i64 res.b.c.r,.bool res.b.ac,.bool res.b.ar,S res.nm,u1]∧RdN (ZB Z w0.heap.size w) u1 nodeEnc res.l∧Ext w0 w):=by
 refine enS hZ func96 [0,1,2] O3 fun Q a Zi eZi H h hr=>?_
 try rw [←eZi] at hr
 clear eZi
 unfold step_at at hS
 refine rg fun K k=>z_box h H rfl O17 rfl rfl fun a p1 w X H h=>?_
 have H:HZ w0 _ _ [_] _:=H
 refine zA h H V33 O17 (fun x=>[_,x]) fun a p2 w X H h=>?_
 refine cz k<|rg fun K k=>s1 h rfl (v_fieldAddr rfl U33 rfl Z31 rfl rfl) fun a h=>s1 h rfl (l1 H 0 A31) fun a h=>?_
 have H:=H.nilRow 33 17 rfl
 have H:HZ w0 _ _ O3 _:=H
 have el2:EL nodeEnc Z ([]:List (Cl 17)) ([]:List (Nd)):=trivial
 obtain ⟨c4,hS⟩:=ck hS
 obtain ⟨z5,e5,hS⟩:=bv hS
 obtain ⟨cy_3,ry_3,ey_3⟩:=id rp0
 refine z_appendS (enc:=(Subtype.val (p:=fun l:List Value=>l.length=17))) (out:=([]:List (Cl 17))) (data:=cy_3) h H 2 rfl U31 app33 rfl rfl rfl ry_3 (fun c=>c.2) ey_3.one (bnd el2.len ey_3.len c4) rfl fun a v10_3 w H h=>?_
 have el2:=EL.append el2 ey_3
 rw [←e5] at el2
 have el2:EL nodeEnc Z (List.append (α:=Cl 17) ([]:List (Cl 17)) cy_3) z5:=el2
 have H:HZ w0 _ _ O3 _:=H
 refine cps 1 h rfl fun a h=>cN k h [1,2,3,6,7] O5 fun h=>?_
 refine rg fun K k=>cps 4 h rfl fun a h=>?_
 obtain ⟨c6,hS⟩:=ck hS
 obtain ⟨z7,e7,hS⟩:=bv hS
 have q_8:=el2.gel ⟨_,nodeEnc_dflt⟩ x1
 rw [←e7] at q_8
 obtain ⟨cl_8,hc_8,q_8⟩:=q_8
 obtain ⟨v15_8_1,hcs_8,r15_8_1⟩:=node_op q_8
 refine st_idxC h U31 Z33 rfl rfl (H.getRow (i:=2) rfl) c6.1 (hc_8 c6) hcs_8 rfl fun a v15 A15 h=>?_
 refine s1 h rfl (v_loadAtA O17 rfl A15 A33 Z33 rfl rfl) fun a h=>cps 1 h rfl fun a h=>?_
 obtain ⟨y9,f9,hS⟩:=bo hS
 refine st2 h rfl rfl rfl (dC call41 (hrec f9 H.zin r15_8_1 hp2 lp2 (hG.ext H.out))) ?_
 rintro v_ w ⟨v18_10_1,rfl,r18_10_1,X⟩ a h
 obtain ⟨Z,hsub,hadd,H⟩:=H.adopt' X
 have el2:=el2.sub hsub
 have r15_8_1:=r15_8_1.sub hsub
 have rp0:=rp0.sub hsub
 have hp2:=hsub _ _ hp2
 have r18_10_1:=r18_10_1.sub hadd
 have A15:=At.ext A15 X
 obtain ⟨c11,hS⟩:=ck hS
 obtain ⟨z12,e12,hS⟩:=bv hS
 have q_13:=el2.gel ⟨_,nodeEnc_dflt⟩ x1
 rw [←e12] at q_13
 obtain ⟨cl_13,hc_13,q_13⟩:=q_13
 obtain ⟨v19_13_1,hcs_13,r19_13_1⟩:=node_op q_13
 have ln_13:([]++cy_3:List (Cl 17)).length=z5.length:=el2.len
 obtain ⟨gb_13,cap_13,hsv_13⟩:=H.rowPtr (i:=2) rfl (by have h_:0<([]++cy_3:List (Cl 17)).length:=(by omega);exact h_)
 refine s1 h rfl (v_idxRow hsv_13 U31 Z33 rfl rfl (by have h_:(0:Int)≤x1∧x1<(([]++cy_3:List (Cl 17)).length:Int):=(by omega);exact h_)) fun a h=>?_
 obtain ⟨zr2_14,ezr2_14,hS⟩:=bv hS
 refine z_storeN h H 2 rfl hsv_13 (Int.toNat x1) (hc_13 c11) (j:=0) rfl rfl Z33 O17 rfl rfl (by obtain ⟨_,_,_,e_⟩:=(r18_10_1).form;subst e_;rfl) (by decide) (c':=(⟨(nL y9 v18_10_1),rfl⟩:Cl 17)) (by rw [hcs_13];rfl) (hl':=O3) rfl fun w H=>?_
 have el2:=EL.set (E:=nodeEnc) (x:=y9) (c:=⟨(nL y9 v18_10_1),rfl⟩) (node_mk ⟨_,rfl,r18_10_1⟩) (Int.toNat x1) el2
 rw [←ezr2_14] at el2
 have el2:EL nodeEnc Z (List.set (α:=Cl 17) ((List.append (α:=Cl 17) ([]:List (Cl 17)) cy_3)) (Int.toNat x1) ⟨(nL y9 v18_10_1),rfl⟩) zr2_14:=el2
 have H:HZ w0 _ _ O3 _:=H
 refine cN k h [3,6,7] O3 fun h=>?_
 refine rg fun K k=>cps 1 h rfl fun a h=>s1 h rfl (v_fieldAddr rfl U33 rfl Z31 rfl rfl) fun a h=>z_store h H 0 rfl rfl rfl Z31 [v10_3] (by rw [(H.rowN (i:=2) rfl el2).cells]) rfl (by obtain ⟨_,_,_,e_⟩:=(H.rowN (i:=2) rfl el2).form;subst e_;rfl) (by simp) O17 rfl (hl':=O3) rfl fun w H=>?_
 refine cz k<|rg fun K k=>s1 h rfl (lA H 0 A33 Z33 O17) fun a h=>z_store h H 1 rfl rfl rfl Z33 O17 rfl rfl (by obtain ⟨_,_,_,e_⟩:=(H.rowN (i:=2) rfl el2).form;subst e_;rfl) (by simp) O17 rfl (hl':=O3) rfl fun w H=>?_
 refine cN k h [6] [_] fun h=>?_
 cases hS
 refine r1 hr h rfl (rvA H 1 A33 Z33 O17) ⟨_,rfl,H.backRowN (i:=2) rfl el2,H.out⟩
theorem step_operator_ok {rec:Nd→(List V)→Option (Nd)} (hrec:HRWkSt0 rec) {x0:Nd} {x1:List V} {res:Nd} {w0:World} (hS:step_operator rec x0 x1=some res) {Z:FZ} (hZ:Z.inn w0) {xv0:Value} (rp0:RdN Z xv0 nodeEnc x0.l) {pb1:Nat} (hp1:Z pb1=some (Cel ((x1:List V).flatMap vL) 39)) (lp1:x1.length=128) (hG:GW w0):Calls Tryz.prog 66 [(nA x0 xv0),.iface 35 (pt pb1)].toArray w0 (Ret fun v w=>∃ u1,v=.agg #[.int .i64 res.k,.int .i64 res.op,.int .i64 res.v.k,.int .i64 res.v.n,S res.v.s,.int .i64 res.a.c.s,.int .i64 res.a.c.c,.int .i64 res.a.c.r,.bool res.a.ac,.bool res.a.ar,.int .i64 res.b.c.s,.int .i64 res.b.c.c,.int .i64 res.b.c.r,.bool res.b.ac,.bool res.b.ar,S res.nm,u1]∧RdN (ZB Z w0.heap.size w) u1 nodeEnc res.l∧Ext w0 w):=by
 refine enS hZ func66 [0,1] O2 fun Q a Zi eZi H h hr=>?_
 try rw [←eZi] at hr
 clear eZi
 unfold step_operator at hS
 refine rg fun K k=>z_box h H rfl O17 rfl rfl fun a p1 w X H h=>?_
 have H:HZ w0 _ _ [_] _:=H
 refine zA h H V33 O17 (fun x=>[_,x]) fun a p2 w X H h=>?_
 refine cz k ?_
 obtain ⟨J4,eJ4,hS⟩:=bv hS
 refine sqJ (fun a w=>∃ (Z:FZ) (s4:Int × Int × Int × Int × (List UInt8) × Int × Int × Int × Bool × Bool × Int × Int × Int × Bool × Bool × (List UInt8) × (List (Nd))) (v1_16_5:Value),J4 s4=some res∧Fr 54 [(2,(pt p1)),(4,(pt p2))] a∧HZ w0 Zi Z [.blk p1 (Cel (nL x0 xv0) 33),.blk p2 (Cel [.int .i64 s4.1,.int .i64 s4.2.1,.int .i64 s4.2.2.1,.int .i64 s4.2.2.2.1,S s4.2.2.2.2.1,.int .i64 s4.2.2.2.2.2.1,.int .i64 s4.2.2.2.2.2.2.1,.int .i64 s4.2.2.2.2.2.2.2.1,.bool s4.2.2.2.2.2.2.2.2.1,.bool s4.2.2.2.2.2.2.2.2.2.1,.int .i64 s4.2.2.2.2.2.2.2.2.2.2.1,.int .i64 s4.2.2.2.2.2.2.2.2.2.2.2.1,.int .i64 s4.2.2.2.2.2.2.2.2.2.2.2.2.1,.bool s4.2.2.2.2.2.2.2.2.2.2.2.2.2.1,.bool s4.2.2.2.2.2.2.2.2.2.2.2.2.2.2.1,S s4.2.2.2.2.2.2.2.2.2.2.2.2.2.2.2.1,v1_16_5] 33)] w∧RdN Z v1_16_5 nodeEnc s4.2.2.2.2.2.2.2.2.2.2.2.2.2.2.2.2∧RdN Z xv0 nodeEnc x0.l∧Z pb1=some (Cel ((x1:List V).flatMap vL) 39)) ?_ ?_
 rintro a w ⟨Z,s4,v1_16_5,hS,h,H,r1_16_5,rp0,hp1⟩
 subst eJ4
 refine sq<|rg fun K k=>s1 h rfl (v_fieldAddr rfl U33 rfl Z3 rfl rfl) fun a h=>s1 h rfl (l1 H 0 A3) fun a h=>sB h hS rfl (v_eq rfl rfl) fun z7 e7 hS a h=>cz k<|cI h hS rfl (fun ec8 hS=>?_) fun ec8 hS=>?_
 refine flT 14 h fun K k=>?_
 refine F1 rfl (fun w X=>v_fieldAddr rfl U33 rfl Z3 rfl rfl) ?_
 refine F1 rfl (fun w X=>have H:=H.ext X;l1 H 0 A3) ?_
 refine F1 rfl (fun w X=>v_fieldAddr rfl U33 rfl Z31 rfl rfl) ?_
 refine F1 rfl (fun w X=>have H:=H.ext X;l1 H 0 A31) ?_
 obtain ⟨c9,hS⟩:=ck hS
 obtain ⟨z10,e10,hS⟩:=bv hS
 have q_11:=rp0.gel ⟨_,nodeEnc_dflt⟩ 0
 rw [←e10] at q_11
 obtain ⟨css_11,cl_11,rc_11,hc_11,q_11⟩:=q_11
 obtain ⟨v35_11_1,hcs_11,r35_11_1⟩:=node_op q_11
 refine f_op [34] rfl rfl rfl rfl false (.rel (fun w' v'=>At w' v' (fun _:Unit=>(nL z10 v35_11_1)) () 0)) at_stab (fun w X=>?_) ?_
 skip
 exact have H:=H.ext X;d_idxC U31 Z33 rfl rfl (rc_11.at H.zin) c9.1 (hc_11 c9) hcs_11
 refine f_op [35] rfl rfl rfl rfl false (.rel (fun w' v'=>At w' v' (fun _:Unit=>(nL z10 v35_11_1)) () 2)) at_stab (fun w X=>?_) ?_
 intro v35 h35
 exact d_field rfl h35 U33 rfl Z26 rfl rfl
 refine f_op [36] rfl rfl rfl rfl false (.eq (vA z10.v)) trivial (fun w X=>?_) ?_
 intro v36 h36
 exact (v_loadAtA O3 rfl h36 A26 Z26 rfl rfl).doesF
 refine F1 rfl (fun w X=>v_fieldAddr rfl U33 rfl Z31 rfl rfl) ?_
 refine F1 rfl (fun w X=>have H:=H.ext X;l1 H 0 A31) ?_
 obtain ⟨c12,hS⟩:=ck hS
 obtain ⟨z13,e13,hS⟩:=bv hS
 have q_14:=rp0.gel ⟨_,nodeEnc_dflt⟩ 1
 rw [←e13] at q_14
 obtain ⟨css_14,cl_14,rc_14,hc_14,q_14⟩:=q_14
 obtain ⟨v40_14_1,hcs_14,r40_14_1⟩:=node_op q_14
 refine f_op [39] rfl rfl rfl rfl false (.rel (fun w' v'=>At w' v' (fun _:Unit=>(nL z13 v40_14_1)) () 0)) at_stab (fun w X=>?_) ?_
 skip
 exact have H:=H.ext X;d_idxC U31 Z33 rfl rfl (rc_14.at H.zin) c12.1 (hc_14 c12) hcs_14
 refine f_op [40] rfl rfl rfl rfl false (.rel (fun w' v'=>At w' v' (fun _:Unit=>(nL z13 v40_14_1)) () 2)) at_stab (fun w X=>?_) ?_
 intro v40 h40
 exact d_field rfl h40 U33 rfl Z26 rfl rfl
 refine f_op [41] rfl rfl rfl rfl false (.eq (vA z13.v)) trivial (fun w X=>?_) ?_
 intro v41 h41
 exact (v_loadAtA O3 rfl h41 A26 Z26 rfl rfl).doesF
 refine fC hS rfl (fun y15 f15 w X=>have H:=H.ext X;dC call88 (funcs_Binary_ok f15 (hG.ext H.out) :)) fun y15 hS=>?_
 obtain ⟨y16,f16,hS⟩:=bo hS
 refine f_op [43] rfl rfl rfl rfl false (.rel (fun w' v'=>∃ v44_17_1,v'=.agg #[.int .i64 y16.k,.int .i64 y16.op,.int .i64 y16.v.k,.int .i64 y16.v.n,S y16.v.s,.int .i64 y16.a.c.s,.int .i64 y16.a.c.c,.int .i64 y16.a.c.r,.bool y16.a.ac,.bool y16.a.ar,.int .i64 y16.b.c.s,.int .i64 y16.b.c.c,.int .i64 y16.b.c.r,.bool y16.b.ac,.bool y16.b.ar,S y16.nm,v44_17_1]∧RdN (ZB Z w.heap.size w') v44_17_1 nodeEnc y16.l)) (fun w w' v X h=>by obtain ⟨v44_17_1,hv,hr0⟩:=h;exact ⟨_,hv,hr0.sub (ZB.grow X)⟩) (fun w X=>?_) ?_
 skip
 exact have Hs:=ZB.of H.zin X;have H:=H.ext X;Does.doesR (dC call32 (tree_Value_ok (x0:=y15) f16)) (fun v w' hr=>by obtain ⟨v44_17_1,hv,hr0,X'⟩:=hr;exact ⟨⟨_,hv,hr0.sub (ZB.back X X')⟩,X'⟩)
 refine fn_ ?_
 intro a w X hR hA
 obtain ⟨_,⟨v44_17_1,rfl,r44_17_1⟩,h⟩:=hR.out [4,44]
 have h:Fr 54 [(44,_),(4,_)] a:=h
 obtain ⟨Z,hsub,hadd,H⟩:=H.adopt' X
 have r1_16_5:=r1_16_5.sub hsub
 have r35_11_1:=r35_11_1.sub hsub
 have r40_14_1:=r40_14_1.sub hsub
 have rp0:=rp0.sub hsub
 have hp1:=hsub _ _ hp1
 have r44_17_1:=r44_17_1.sub hadd
 refine z_store h H 1 rfl rfl rfl Z33 O17 rfl rfl (by obtain ⟨_,_,_,e_⟩:=(r44_17_1).form;subst e_;rfl) (by simp) O17 rfl (hl':=O2) rfl fun w H=>?_
 refine cz k ?_
 cases hS
 refine r1 hr h rfl (rvA H 1 A33 Z33 O17) ⟨_,rfl,r44_17_1.sub H.back,H.out⟩
 refine c_skip<|flT 9 h fun K k=>?_
 refine F1 rfl (fun w X=>v_fieldAddr rfl U33 rfl Z3 rfl rfl) ?_
 refine F1 rfl (fun w X=>have H:=H.ext X;l1 H 0 A3) ?_
 refine F1 rfl (fun w X=>v_fieldAddr rfl U33 rfl Z31 rfl rfl) ?_
 refine F1 rfl (fun w X=>have H:=H.ext X;l1 H 0 A31) ?_
 obtain ⟨c18,hS⟩:=ck hS
 obtain ⟨z19,e19,hS⟩:=bv hS
 have q_20:=rp0.gel ⟨_,nodeEnc_dflt⟩ 0
 rw [←e19] at q_20
 obtain ⟨css_20,cl_20,rc_20,hc_20,q_20⟩:=q_20
 obtain ⟨v49_20_1,hcs_20,r49_20_1⟩:=node_op q_20
 refine f_op [48] rfl rfl rfl rfl false (.rel (fun w' v'=>At w' v' (fun _:Unit=>(nL z19 v49_20_1)) () 0)) at_stab (fun w X=>?_) ?_
 skip
 exact have H:=H.ext X;d_idxC U31 Z33 rfl rfl (rc_20.at H.zin) c18.1 (hc_20 c18) hcs_20
 refine f_op [49] rfl rfl rfl rfl false (.rel (fun w' v'=>At w' v' (fun _:Unit=>(nL z19 v49_20_1)) () 2)) at_stab (fun w X=>?_) ?_
 intro v49 h49
 exact d_field rfl h49 U33 rfl Z26 rfl rfl
 refine f_op [50] rfl rfl rfl rfl false (.eq (vA z19.v)) trivial (fun w X=>?_) ?_
 intro v50 h50
 exact (v_loadAtA O3 rfl h50 A26 Z26 rfl rfl).doesF
 refine fC hS rfl (fun y21 f21 w X=>dC call87 (funcs_Unary_ok f21 :)) fun y21 hS=>?_
 obtain ⟨y22,f22,hS⟩:=bo hS
 refine f_op [52] rfl rfl rfl rfl false (.rel (fun w' v'=>∃ v53_23_1,v'=.agg #[.int .i64 y22.k,.int .i64 y22.op,.int .i64 y22.v.k,.int .i64 y22.v.n,S y22.v.s,.int .i64 y22.a.c.s,.int .i64 y22.a.c.c,.int .i64 y22.a.c.r,.bool y22.a.ac,.bool y22.a.ar,.int .i64 y22.b.c.s,.int .i64 y22.b.c.c,.int .i64 y22.b.c.r,.bool y22.b.ac,.bool y22.b.ar,S y22.nm,v53_23_1]∧RdN (ZB Z w.heap.size w') v53_23_1 nodeEnc y22.l)) (fun w w' v X h=>by obtain ⟨v53_23_1,hv,hr0⟩:=h;exact ⟨_,hv,hr0.sub (ZB.grow X)⟩) (fun w X=>?_) ?_
 skip
 exact have Hs:=ZB.of H.zin X;have H:=H.ext X;Does.doesR (dC call32 (tree_Value_ok (x0:=y21) f22)) (fun v w' hr=>by obtain ⟨v53_23_1,hv,hr0,X'⟩:=hr;exact ⟨⟨_,hv,hr0.sub (ZB.back X X')⟩,X'⟩)
 refine fn_ ?_
 intro a w X hR hA
 obtain ⟨_,⟨v53_23_1,rfl,r53_23_1⟩,h⟩:=hR.out [4,53]
 have h:Fr 54 [(53,_),(4,_)] a:=h
 obtain ⟨Z,hsub,hadd,H⟩:=H.adopt' X
 have r1_16_5:=r1_16_5.sub hsub
 have r49_20_1:=r49_20_1.sub hsub
 have rp0:=rp0.sub hsub
 have hp1:=hsub _ _ hp1
 have r53_23_1:=r53_23_1.sub hadd
 refine z_store h H 1 rfl rfl rfl Z33 O17 rfl rfl (by obtain ⟨_,_,_,e_⟩:=(r53_23_1).form;subst e_;rfl) (by simp) O17 rfl (hl':=O2) rfl fun w H=>?_
 refine cz k ?_
 cases hS
 refine r1 hr h rfl (rvA H 1 A33 Z33 O17) ⟨_,rfl,r53_23_1.sub H.back,H.out⟩
 refine rg fun K k=>s1 h rfl (v_fieldAddr rfl U33 rfl Z31 rfl rfl) fun a h=>s1 h rfl (l1 H 0 A31) fun a h=>s1 h rfl (v_lenN U31 rfl rp0 H.zin) fun a h=>cps 1 h rfl fun a h=>cz k<|lb ?_
 obtain ⟨B25,eB25,hS⟩:=bv hS
 refine lpJ (fun mu_ a w=>∃ (Z:FZ) (s25:Int × Int × Int × Int × Int × (List UInt8) × Int × Int × Int × Bool × Bool × Int × Int × Int × Bool × Bool × (List UInt8) × (List (Nd))) (v1_16_27:Value),loopF B25 mu_ s25=some res∧Fr 54 [(1,.iface 35 (pt pb1)),(2,(pt p1)),(4,(pt p2)),(8,xv0),(9,.int .i64 (x0.l.length:Int)),(10,.int .i64 s25.1)] a∧HZ w0 Zi Z [.blk p1 (Cel (nL x0 xv0) 33),.blk p2 (Cel [.int .i64 s25.2.1,.int .i64 s25.2.2.1,.int .i64 s25.2.2.2.1,.int .i64 s25.2.2.2.2.1,S s25.2.2.2.2.2.1,.int .i64 s25.2.2.2.2.2.2.1,.int .i64 s25.2.2.2.2.2.2.2.1,.int .i64 s25.2.2.2.2.2.2.2.2.1,.bool s25.2.2.2.2.2.2.2.2.2.1,.bool s25.2.2.2.2.2.2.2.2.2.2.1,.int .i64 s25.2.2.2.2.2.2.2.2.2.2.2.1,.int .i64 s25.2.2.2.2.2.2.2.2.2.2.2.2.1,.int .i64 s25.2.2.2.2.2.2.2.2.2.2.2.2.2.1,.bool s25.2.2.2.2.2.2.2.2.2.2.2.2.2.2.1,.bool s25.2.2.2.2.2.2.2.2.2.2.2.2.2.2.2.1,S s25.2.2.2.2.2.2.2.2.2.2.2.2.2.2.2.2.1,v1_16_27] 33)] w∧RdN Z v1_16_27 nodeEnc s25.2.2.2.2.2.2.2.2.2.2.2.2.2.2.2.2.2∧RdN Z xv0 nodeEnc x0.l∧Z pb1=some (Cel ((x1:List V).flatMap vL) 39)) KK ⟨_,_,_,hS,h.to,H,RdN.nil,rp0,hp1⟩ ?_
 rintro mu_ a w ⟨Z,s25,v1_16_27,hS,h,H,r1_16_27,rp0,hp1⟩
 obtain ⟨mu_,rfl,n25,en25,hS⟩:=lpX eB25 hS
 refine rg fun K k=>sB h hS rfl (v_lt rfl rfl) fun z28 e28 hS a h=>cz k<|sq<|cI h hS rfl (fun ec30 hS=>?_) fun ec30 hS=>?_
 refine c_skip<|sb ?_
 refine rg fun K k=>cps 1 h rfl fun a h=>?_
 obtain ⟨c32,hS⟩:=ck hS
 obtain ⟨z33,e33,hS⟩:=bv hS
 have q_34:=rp0.gel ⟨_,nodeEnc_dflt⟩ s25.1
 rw [←e33] at q_34
 obtain ⟨css_34,cl_34,rc_34,hc_34,q_34⟩:=q_34
 obtain ⟨v13_34_1,hcs_34,r13_34_1⟩:=node_op q_34
 refine st_idxC h U31 Z33 rfl rfl (rc_34.at H.zin) c32.1 (hc_34 c32) hcs_34 rfl fun a v13 A13 h=>?_
 refine s1 h rfl (v_loadAtA O17 rfl A13 A33 Z33 rfl rfl) fun a h=>zA h H V33 O17 (fun x=>[_,_,x]) fun a p35 w X H h=>?_
 have A13:=At.ext A13 X
 refine cps 1 h rfl fun a h=>z_store h H 2 rfl rfl rfl Z33 O17 rfl rfl (by obtain ⟨_,_,_,e_⟩:=(r13_34_1).form;subst e_;rfl) (by simp) O17 rfl (hl':=O3) rfl fun w H=>?_
 refine cz k<|sq<|rg fun K k=>s1 h rfl (lA H 2 A33 Z33 O17) fun a h=>sC h H hS rfl (fun y37 f37=>dC call65 (step_done_ok f37 (r13_34_1.hz H.zin) :)) fun y37 hS w X H a h=>?_
 refine sB h hS rfl (v_not rfl) fun z38 e38 hS a h=>cN k h [1,2,4,5,6,8,9,10,17] O9 fun h=>?_
 refine cI h hS rfl (fun ec39 hS=>?_) fun ec39 hS=>?_
 refine rg fun K k=>s1 h rfl (lA H 0 A33 Z33 O17) fun a h=>cps 2 h rfl fun a h=>?_
 obtain ⟨y40,f40,hS⟩:=bo hS
 refine st2 h rfl rfl rfl (dC call96 (step_at_ok hrec f40 H.zin rp0 hp1 lp1 (hG.ext H.out))) ?_
 rintro v_ w ⟨v21_41_1,rfl,r21_41_1,X⟩ a h
 obtain ⟨Z,hsub,hadd,H⟩:=H.adopt' X
 have r13_34_1:=r13_34_1.sub hsub
 have r1_16_27:=r1_16_27.sub hsub
 have rp0:=rp0.sub hsub
 have hp1:=hsub _ _ hp1
 have r21_41_1:=r21_41_1.sub hadd
 refine z_store h H 1 rfl rfl rfl Z33 O17 rfl rfl (by obtain ⟨_,_,_,e_⟩:=(r21_41_1).form;subst e_;rfl) (by simp) O17 rfl (hl':=O3) rfl fun w H=>?_
 refine cN k h [4] [_] fun h=>?_
 cases hS
 refine r1 hr h rfl (rvA H 1 A33 Z33 O17) ⟨_,rfl,r21_41_1.sub H.back,H.out⟩
 refine c_skip<|rg fun K k=>s1 h rfl (v_fieldAddr rfl U33 rfl Z26 rfl rfl) fun a h=>s1 h rfl (v_fieldAddr rfl U26 rfl Z3 rfl rfl) fun a h=>s1 h rfl (l1 H 2 A3) fun a h=>sB h hS rfl (v_eq rfl rfl) fun z42 e42 hS a h=>cN k h [1,2,4,6,8,9,10,25] O8 fun h=>?_
 refine cI h hS rfl (fun ec43 hS=>?_) fun ec43 hS=>?_
 refine rg fun K k=>s1 h rfl (lA H 2 A33 Z33 O17) fun a h=>z_store h H 1 rfl rfl rfl Z33 O17 rfl rfl (by obtain ⟨_,_,_,e_⟩:=(r13_34_1).form;subst e_;rfl) (by simp) O17 rfl (hl':=O3) rfl fun w H=>?_
 refine cN k h [4] [_] fun h=>?_
 cases hS
 refine r1 hr h rfl (rvA H 1 A33 Z33 O17) ⟨_,rfl,r13_34_1.sub H.back,H.out⟩
 refine c_skip<|c_lregion<|sI h hS rfl (v_addw rfl rfl) fun z44 e44 hS a h=>cps 1 h rfl fun a h=>c_lnil ?_
 exact exL (ex3 ⟨lpN en25 hS,h.to,(H.keepN 2 rfl),r1_16_27,rp0,hp1⟩)
 exact c_exit (ex3 ⟨hS,h.to,H,r1_16_27,rp0,hp1⟩)
theorem step_strict_ok {rec:Nd→(List V)→Option (Nd)} (hrec:HRWkSt0 rec) {x0:Nd} {x1:List V} {res:Nd} {w0:World} (hS:step_strict rec x0 x1=some res) {Z:FZ} (hZ:Z.inn w0) {xv0:Value} (rp0:RdN Z xv0 nodeEnc x0.l) {pb1:Nat} (hp1:Z pb1=some (Cel ((x1:List V).flatMap vL) 39)) (lp1:x1.length=128) (hG:GW w0):Calls Tryz.prog 68 [(nA x0 xv0),.iface 35 (pt pb1)].toArray w0 (Ret fun v w=>∃ u1,v=.agg #[.int .i64 res.k,.int .i64 res.op,.int .i64 res.v.k,.int .i64 res.v.n,S res.v.s,.int .i64 res.a.c.s,.int .i64 res.a.c.c,.int .i64 res.a.c.r,.bool res.a.ac,.bool res.a.ar,.int .i64 res.b.c.s,.int .i64 res.b.c.c,.int .i64 res.b.c.r,.bool res.b.ac,.bool res.b.ar,S res.nm,u1]∧RdN (ZB Z w0.heap.size w) u1 nodeEnc res.l∧Ext w0 w):=by
 refine enS hZ func68 [0,1] O2 fun Q a Zi eZi H h hr=>?_
 try rw [←eZi] at hr
 clear eZi
 unfold step_strict at hS
 refine rg fun K k=>z_box h H rfl O17 rfl rfl fun a p1 w X H h=>?_
 have H:HZ w0 _ _ [_] _:=H
 refine zA h H V33 O17 (fun x=>[_,x]) fun a p2 w X H h=>?_
 refine cz k ?_
 obtain ⟨J4,eJ4,hS⟩:=bv hS
 refine sqJ (fun a w=>∃ (Z:FZ) (s4:Int × Int × Int × Int × (List UInt8) × Int × Int × Int × Bool × Bool × Int × Int × Int × Bool × Bool × (List UInt8) × (List (Nd))) (v1_16_5:Value),J4 s4=some res∧Fr 43 [(1,.iface 35 (pt pb1)),(2,(pt p1)),(4,(pt p2))] a∧HZ w0 Zi Z [.blk p1 (Cel (nL x0 xv0) 33),.blk p2 (Cel [.int .i64 s4.1,.int .i64 s4.2.1,.int .i64 s4.2.2.1,.int .i64 s4.2.2.2.1,S s4.2.2.2.2.1,.int .i64 s4.2.2.2.2.2.1,.int .i64 s4.2.2.2.2.2.2.1,.int .i64 s4.2.2.2.2.2.2.2.1,.bool s4.2.2.2.2.2.2.2.2.1,.bool s4.2.2.2.2.2.2.2.2.2.1,.int .i64 s4.2.2.2.2.2.2.2.2.2.2.1,.int .i64 s4.2.2.2.2.2.2.2.2.2.2.2.1,.int .i64 s4.2.2.2.2.2.2.2.2.2.2.2.2.1,.bool s4.2.2.2.2.2.2.2.2.2.2.2.2.2.1,.bool s4.2.2.2.2.2.2.2.2.2.2.2.2.2.2.1,S s4.2.2.2.2.2.2.2.2.2.2.2.2.2.2.2.1,v1_16_5] 33)] w∧RdN Z v1_16_5 nodeEnc s4.2.2.2.2.2.2.2.2.2.2.2.2.2.2.2.2∧RdN Z xv0 nodeEnc x0.l∧Z pb1=some (Cel ((x1:List V).flatMap vL) 39)) ?_ ?_
 rintro a w ⟨Z,s4,v1_16_5,hS,h,H,r1_16_5,rp0,hp1⟩
 subst eJ4
 refine rg fun K k=>s1 h rfl (lA H 0 A33 Z33 O17) fun a h=>s1 h rfl (v_build bld28 [] O3 rfl rfl) fun a h=>cps 1 h rfl fun a h=>?_
 obtain ⟨y6,f6,hS⟩:=bo hS
 refine st2 h rfl rfl rfl (dC call19 (eval_Eval_ok f6 H.zin rp0 hp1 lp1 (hG.ext H.out))) ?_
 rintro v_ w ⟨v40_7_1,rfl,r40_7_1,X⟩ a h
 obtain ⟨Z,hsub,hadd,H⟩:=H.adopt' X
 have r1_16_5:=r1_16_5.sub hsub
 have rp0:=rp0.sub hsub
 have hp1:=hsub _ _ hp1
 have r40_7_1:=r40_7_1.sub (ZB.empty.trans hadd)
 refine s1 h rfl (v_fieldA O3 rfl U51 rfl A26 Z26 rfl) fun a h=>?_
 obtain ⟨y8,f8,hS⟩:=bo hS
 refine st2 h rfl rfl rfl (dC call32 (tree_Value_ok (x0:=y6.v) f8)) ?_
 rintro v_ w ⟨v42_9_1,rfl,r42_9_1,X⟩ a h
 obtain ⟨Z,hsub,hadd,H⟩:=H.adopt' X
 have r1_16_5:=r1_16_5.sub hsub
 have r40_7_1:=r40_7_1.sub hsub
 have rp0:=rp0.sub hsub
 have hp1:=hsub _ _ hp1
 have r42_9_1:=r42_9_1.sub (ZB.empty.trans hadd)
 refine z_store h H 1 rfl rfl rfl Z33 O17 rfl rfl (by obtain ⟨_,_,_,e_⟩:=(r42_9_1).form;subst e_;rfl) (by simp) O17 rfl (hl':=O2) rfl fun w H=>?_
 refine cN k h [4] [_] fun h=>?_
 cases hS
 refine r1 hr h rfl (rvA H 1 A33 Z33 O17) ⟨_,rfl,r42_9_1.sub H.back,H.out⟩
 refine rg fun K k=>s1 h rfl (v_fieldAddr rfl U33 rfl Z31 rfl rfl) fun a h=>s1 h rfl (l1 H 0 A31) fun a h=>s1 h rfl (v_lenN U31 rfl rp0 H.zin) fun a h=>cps 1 h rfl fun a h=>cz k<|lb ?_
 obtain ⟨B11,eB11,hS⟩:=bv hS
 refine lpJ (fun mu_ a w=>∃ (Z:FZ) (s11:Int × Int × Int × Int × Int × (List UInt8) × Int × Int × Int × Bool × Bool × Int × Int × Int × Bool × Bool × (List UInt8) × (List (Nd))) (v1_16_13:Value),loopF B11 mu_ s11=some res∧Fr 43 [(1,.iface 35 (pt pb1)),(2,(pt p1)),(4,(pt p2)),(11,xv0),(12,.int .i64 (x0.l.length:Int)),(13,.int .i64 s11.1)] a∧HZ w0 Zi Z [.blk p1 (Cel (nL x0 xv0) 33),.blk p2 (Cel [.int .i64 s11.2.1,.int .i64 s11.2.2.1,.int .i64 s11.2.2.2.1,.int .i64 s11.2.2.2.2.1,S s11.2.2.2.2.2.1,.int .i64 s11.2.2.2.2.2.2.1,.int .i64 s11.2.2.2.2.2.2.2.1,.int .i64 s11.2.2.2.2.2.2.2.2.1,.bool s11.2.2.2.2.2.2.2.2.2.1,.bool s11.2.2.2.2.2.2.2.2.2.2.1,.int .i64 s11.2.2.2.2.2.2.2.2.2.2.2.1,.int .i64 s11.2.2.2.2.2.2.2.2.2.2.2.2.1,.int .i64 s11.2.2.2.2.2.2.2.2.2.2.2.2.2.1,.bool s11.2.2.2.2.2.2.2.2.2.2.2.2.2.2.1,.bool s11.2.2.2.2.2.2.2.2.2.2.2.2.2.2.2.1,S s11.2.2.2.2.2.2.2.2.2.2.2.2.2.2.2.2.1,v1_16_13] 33)] w∧RdN Z v1_16_13 nodeEnc s11.2.2.2.2.2.2.2.2.2.2.2.2.2.2.2.2.2∧RdN Z xv0 nodeEnc x0.l∧Z pb1=some (Cel ((x1:List V).flatMap vL) 39)) KK ⟨_,_,_,hS,h.to,H,RdN.nil,rp0,hp1⟩ ?_
 rintro mu_ a w ⟨Z,s11,v1_16_13,hS,h,H,r1_16_13,rp0,hp1⟩
 obtain ⟨mu_,rfl,n11,en11,hS⟩:=lpX eB11 hS
 refine rg fun K k=>sB h hS rfl (v_lt rfl rfl) fun z14 e14 hS a h=>cz k<|sq<|cI h hS rfl (fun ec16 hS=>?_) fun ec16 hS=>?_
 refine c_skip<|sb ?_
 refine rg fun K k=>cps 1 h rfl fun a h=>?_
 obtain ⟨c18,hS⟩:=ck hS
 obtain ⟨z19,e19,hS⟩:=bv hS
 have q_20:=rp0.gel ⟨_,nodeEnc_dflt⟩ s11.1
 rw [←e19] at q_20
 obtain ⟨css_20,cl_20,rc_20,hc_20,q_20⟩:=q_20
 obtain ⟨v16_20_1,hcs_20,r16_20_1⟩:=node_op q_20
 refine st_idxC h U31 Z33 rfl rfl (rc_20.at H.zin) c18.1 (hc_20 c18) hcs_20 rfl fun a v16 A16 h=>?_
 refine s1 h rfl (v_loadAtA O17 rfl A16 A33 Z33 rfl rfl) fun a h=>zA h H V33 O17 (fun x=>[_,_,x]) fun a p21 w X H h=>?_
 have A16:=At.ext A16 X
 refine cps 1 h rfl fun a h=>z_store h H 2 rfl rfl rfl Z33 O17 rfl rfl (by obtain ⟨_,_,_,e_⟩:=(r16_20_1).form;subst e_;rfl) (by simp) O17 rfl (hl':=O3) rfl fun w H=>?_
 refine cz k<|rg fun K k=>cps 1 h rfl fun a h=>s1 h rfl (lA H 2 A33 Z33 O17) fun a h=>?_
 obtain ⟨y22,f22,hS⟩:=bo hS
 refine st2v (T:=Ext) (V:=.tuple #[(cA y22.1),(cA y22.2.1),.bool y22.2.2]) h rfl rfl rfl (dC call52 (eval_Area_ok f22 H.zin r16_20_1 hp1 lp1)) fun w X a h=>?_
 have H:=H.ext X
 refine cps 4 h rfl fun a h=>zA h H V28 O3 (fun x=>[_,_,_,x]) fun a p23 w X H h=>?_
 refine zA h H V28 O3 (fun x=>[_,_,_,_,x]) fun a p24 w X H h=>?_
 refine zS h H 3 Z28 O3 O3 O5 fun w H=>?_
 refine zS h H 4 Z28 O3 O3 O5 fun w H=>?_
 refine cps 1 h rfl fun a h=>cN k h [1,2,4,5,6,9,11,12,13] O9 fun h=>?_
 refine rg fun K k=>s1 h rfl (lA H 2 A33 Z33 O17) fun a h=>sC h H hS rfl (fun y25 f25=>dC call65 (step_done_ok f25 (r16_20_1.hz H.zin) :)) fun y25 hS w X H a h=>?_
 refine sB h hS rfl (v_not rfl) fun z26 e26 hS a h=>cps 1 h rfl fun a h=>st_g h rfl rfl (gT rfl) rfl rfl (fun e0=>v_move rfl) fun a h=>?_
 obtain ⟨z27,e27,hS⟩:=bv hS
 refine st_g h rfl rfl (gT rfl) rfl rfl (fun e0=>vB e27 (v_not (eg e0 rfl))) fun a h=>?_
 refine sB h hS rfl (v_and rfl rfl) fun z28 e28 hS a h=>cN k h [1,2,4,5,11,12,13,31] O8 fun h=>?_
 refine cI h hS rfl (fun ec29 hS=>?_) fun ec29 hS=>?_
 refine rg fun K k=>s1 h rfl (lA H 0 A33 Z33 O17) fun a h=>cps 2 h rfl fun a h=>?_
 obtain ⟨y30,f30,hS⟩:=bo hS
 refine st2 h rfl rfl rfl (dC call96 (step_at_ok hrec f30 H.zin rp0 hp1 lp1 (hG.ext H.out))) ?_
 rintro v_ w ⟨v35_31_1,rfl,r35_31_1,X⟩ a h
 obtain ⟨Z,hsub,hadd,H⟩:=H.adopt' X
 have r16_20_1:=r16_20_1.sub hsub
 have r1_16_13:=r1_16_13.sub hsub
 have rp0:=rp0.sub hsub
 have hp1:=hsub _ _ hp1
 have r35_31_1:=r35_31_1.sub hadd
 refine z_store h H 1 rfl rfl rfl Z33 O17 rfl rfl (by obtain ⟨_,_,_,e_⟩:=(r35_31_1).form;subst e_;rfl) (by simp) O17 rfl (hl':=O5) rfl fun w H=>?_
 refine cN k h [4] [_] fun h=>?_
 cases hS
 refine r1 hr h rfl (rvA H 1 A33 Z33 O17) ⟨_,rfl,r35_31_1.sub H.back,H.out⟩
 refine c_skip<|c_lregion<|sI h hS rfl (v_addw rfl rfl) fun z32 e32 hS a h=>cps 1 h rfl fun a h=>c_lnil ?_
 exact exL (ex3 ⟨lpN en11 hS,h.to,(H.keepN 2 rfl),r1_16_13,rp0,hp1⟩)
 exact c_exit (ex3 ⟨hS,h.to,H,r1_16_13,rp0,hp1⟩)
theorem step_leads_ok {x0:Nd} {x1:List V} {res:Nd} {w0:World} (hS:step_leads x0 x1=some res) {Z:FZ} (hZ:Z.inn w0) {xv0:Value} (rp0:RdN Z xv0 nodeEnc x0.l) {pb1:Nat} (hp1:Z pb1=some (Cel ((x1:List V).flatMap vL) 39)) (lp1:x1.length=128) (hG:GW w0):Calls Tryz.prog 97 [(nA x0 xv0),.iface 35 (pt pb1)].toArray w0 (Ret fun v w=>∃ u1,v=.agg #[.int .i64 res.k,.int .i64 res.op,.int .i64 res.v.k,.int .i64 res.v.n,S res.v.s,.int .i64 res.a.c.s,.int .i64 res.a.c.c,.int .i64 res.a.c.r,.bool res.a.ac,.bool res.a.ar,.int .i64 res.b.c.s,.int .i64 res.b.c.c,.int .i64 res.b.c.r,.bool res.b.ac,.bool res.b.ar,S res.nm,u1]∧RdN (ZB Z w0.heap.size w) u1 nodeEnc res.l∧Ext w0 w):=by
 refine enS hZ func97 [0,1] O2 fun Q a Zi eZi H h hr=>?_
 try rw [←eZi] at hr
 clear eZi
 unfold step_leads at hS
 refine rg fun K k=>z_box h H rfl O17 rfl rfl fun a p1 w X H h=>?_
 have H:HZ w0 _ _ [_] _:=H
 refine zA h H V33 O17 (fun x=>[_,x]) fun a p2 w X H h=>?_
 refine cz k<|sq<|rg fun K k=>cps 1 h rfl fun a h=>s1 h rfl (lA H 0 A33 Z33 O17) fun a h=>?_
 obtain ⟨y4,f4,hS⟩:=bo hS
 refine st2v (T:=Ext) (V:=.tuple #[(cA y4.1),(cA y4.2.1),.bool y4.2.2]) h rfl rfl rfl (dC call52 (eval_Area_ok f4 H.zin rp0 hp1 lp1)) fun w X a h=>?_
 have H:=H.ext X
 refine cps 4 h rfl fun a h=>zA h H V28 O3 (fun x=>[_,_,x]) fun a p5 w X H h=>?_
 refine zA h H V28 O3 (fun x=>[_,_,_,x]) fun a p6 w X H h=>?_
 refine zS h H 2 Z28 O3 O3 O4 fun w H=>?_
 refine zS h H 3 Z28 O3 O3 O4 fun w H=>?_
 refine cps 1 h rfl fun a h=>cN k h [1,2,4,7] O4 fun h=>?_
 refine rg fun K k=>cps 1 h rfl fun a h=>cz k<|cI h hS rfl (fun ec7 hS=>?_) fun ec7 hS=>?_
 refine rg fun K k=>s1 h rfl (lA H 0 A33 Z33 O17) fun a h=>s1 h rfl (v_build bld28 [] O3 rfl rfl) fun a h=>cps 1 h rfl fun a h=>?_
 obtain ⟨y8,f8,hS⟩:=bo hS
 refine st2 h rfl rfl rfl (dC call19 (eval_Eval_ok f8 H.zin rp0 hp1 lp1 (hG.ext H.out))) ?_
 rintro v_ w ⟨v19_9_1,rfl,r19_9_1,X⟩ a h
 obtain ⟨Z,hsub,hadd,H⟩:=H.adopt' X
 have rp0:=rp0.sub hsub
 have hp1:=hsub _ _ hp1
 have r19_9_1:=r19_9_1.sub (ZB.empty.trans hadd)
 refine s1 h rfl (v_fieldA O3 rfl U51 rfl A26 Z26 rfl) fun a h=>?_
 obtain ⟨y10,f10,hS⟩:=bo hS
 refine st2 h rfl rfl rfl (dC call32 (tree_Value_ok (x0:=y8.v) f10)) ?_
 rintro v_ w ⟨v21_11_1,rfl,r21_11_1,X⟩ a h
 obtain ⟨Z,hsub,hadd,H⟩:=H.adopt' X
 have r19_9_1:=r19_9_1.sub hsub
 have rp0:=rp0.sub hsub
 have hp1:=hsub _ _ hp1
 have r21_11_1:=r21_11_1.sub (ZB.empty.trans hadd)
 refine z_store h H 1 rfl rfl rfl Z33 O17 rfl rfl (by obtain ⟨_,_,_,e_⟩:=(r21_11_1).form;subst e_;rfl) (by simp) O17 rfl (hl':=O4) rfl fun w H=>?_
 refine cN k h [4] [_] fun h=>?_
 cases hS
 refine r1 hr h rfl (rvA H 1 A33 Z33 O17) ⟨_,rfl,r21_11_1.sub H.back,H.out⟩
 refine c_skip<|rg fun K k=>s1 h rfl (lA H 0 A33 Z33 O17) fun a h=>z_store h H 1 rfl rfl rfl Z33 O17 rfl rfl (by obtain ⟨_,_,_,e_⟩:=(rp0).form;subst e_;rfl) (by simp) O17 rfl (hl':=O4) rfl fun w H=>?_
 refine cN k h [4] [_] fun h=>?_
 cases hS
 refine r1 hr h rfl (rvA H 1 A33 Z33 O17) ⟨_,rfl,rp0.sub H.back,H.out⟩
theorem step_taken_ok {x0:Nd} {x1:V} {x2:List V} {res:Nd} {w0:World} (hS:step_taken x0 x1 x2=some res) {Z:FZ} (hZ:Z.inn w0) {xv0:Value} (rp0:RdN Z xv0 nodeEnc x0.l) {pb2:Nat} (hp2:Z pb2=some (Cel ((x2:List V).flatMap vL) 39)) (lp2:x2.length=128) (hG:GW w0):Calls Tryz.prog 98 [(nA x0 xv0),(vA x1),.iface 35 (pt pb2)].toArray w0 (Ret fun v w=>∃ u1,v=.agg #[.int .i64 res.k,.int .i64 res.op,.int .i64 res.v.k,.int .i64 res.v.n,S res.v.s,.int .i64 res.a.c.s,.int .i64 res.a.c.c,.int .i64 res.a.c.r,.bool res.a.ac,.bool res.a.ar,.int .i64 res.b.c.s,.int .i64 res.b.c.c,.int .i64 res.b.c.r,.bool res.b.ac,.bool res.b.ar,S res.nm,u1]∧RdN (ZB Z w0.heap.size w) u1 nodeEnc res.l∧Ext w0 w):=by
 refine enS hZ func98 [0,1,2] O3 fun Q a Zi eZi H h hr=>?_
 try rw [←eZi] at hr
 clear eZi
 unfold step_taken at hS
 refine rg fun K k=>z_box h H rfl O17 rfl rfl fun a p1 w X H h=>?_
 have H:HZ w0 _ _ [_] _:=H
 refine z_box h H rfl O3 rfl rfl fun a p2 w X H h=>?_
 have H:HZ w0 _ _ O2 _:=H
 refine zA h H V33 O17 (fun x=>[_,_,x]) fun a p3 w X H h=>?_
 refine cz k<|sq<|rg fun K k=>s1 h rfl (v_fieldAddr rfl U33 rfl Z3 rfl rfl) fun a h=>s1 h rfl (l1 H 0 A3) fun a h=>sB h hS rfl (v_eq rfl rfl) fun z5 e5 hS a h=>cN k h [2,3,4,6,12] O5 fun h=>?_
 refine cI h hS rfl (fun ec6 hS=>?_) fun ec6 hS=>?_
 refine rg fun K k=>s1 h rfl (lA H 1 A26 Z26 O3) fun a h=>sC h H hS rfl (fun y7 f7=>dC call115 (value_ToNum_ok f7 :)) fun y7 hS w X H a h=>?_
 refine zA h H V26 O3 (fun x=>[_,_,_,x]) fun a p8 w X H h=>?_
 refine zS h H 3 Z26 O3 O3 O4 fun w H=>?_
 refine cN k h [2,3,6,7] O4 fun h=>?_
 refine sq<|rg fun K k=>s1 h rfl (v_fieldAddr rfl U26 rfl Z3 rfl rfl) fun a h=>s1 h rfl (l1 H 3 A3) fun a h=>sB h hS rfl (v_eq rfl rfl) fun z10 e10 hS a h=>cz k<|cI h hS rfl (fun ec11 hS=>?_) fun ec11 hS=>?_
 refine rg fun K k=>s1 h rfl (lA H 3 A26 Z26 O3) fun a h=>?_
 obtain ⟨y12,f12,hS⟩:=bo hS
 refine st2 h rfl rfl rfl (dC call32 (tree_Value_ok (x0:=y7) f12)) ?_
 rintro v_ w ⟨v19_13_1,rfl,r19_13_1,X⟩ a h
 obtain ⟨Z,hsub,hadd,H⟩:=H.adopt' X
 have rp0:=rp0.sub hsub
 have hp2:=hsub _ _ hp2
 have r19_13_1:=r19_13_1.sub (ZB.empty.trans hadd)
 refine z_store h H 2 rfl rfl rfl Z33 O17 rfl rfl (by obtain ⟨_,_,_,e_⟩:=(r19_13_1).form;subst e_;rfl) (by simp) O17 rfl (hl':=O4) rfl fun w H=>?_
 refine cN k h [6] [_] fun h=>?_
 cases hS
 refine r1 hr h rfl (rvA H 2 A33 Z33 O17) ⟨_,rfl,r19_13_1.sub H.back,H.out⟩
 refine c_skip<|sq<|rg fun K k=>s1 h rfl (v_fieldAddr rfl U26 rfl Z2 rfl rfl) fun a h=>s1 h rfl (l1 H 3 A2) fun a h=>sI h hS rfl (v_quow rfl rfl (by decide)) fun z15 e15 hS a h=>cps 1 h rfl fun a h=>cN k h [2,3,6,8] O4 fun h=>?_
 refine rg fun K k=>cps 1 h rfl fun a h=>sB h hS rfl (v_ge rfl rfl) fun z16 e16 hS a h=>cps 1 h rfl fun a h=>st_g h rfl rfl (gT rfl) rfl rfl (fun e0=>v_move rfl) fun a h=>?_
 refine st_g h rfl rfl (gT rfl) rfl rfl (fun e0=>v_fieldAddr rfl U33 rfl Z31 rfl rfl) fun a h=>?_
 refine st_g h rfl rfl (gT rfl) rfl rfl (fun e0=>v_load1 (eg e0 rfl) A31 (H.hp.get 0 rfl) rfl) fun a h=>?_
 refine st_g h rfl rfl (gT rfl) rfl rfl (fun e0=>v_lenN U31 (eg e0 rfl) rp0 H.zin) fun a h=>?_
 obtain ⟨z17,e17,hS⟩:=bv hS
 refine st_g h rfl rfl (gT rfl) rfl rfl (fun e0=>vB e17 (v_lt (eg e0 rfl) (eg e0 rfl))) fun a h=>?_
 refine sB h hS rfl (v_and rfl rfl) fun z18 e18 hS a h=>cN k h [2,3,6,8,31] O5 fun h=>?_
 refine cI h hS rfl (fun ec19 hS=>?_) fun ec19 hS=>?_
 refine rg fun K k=>s1 h rfl (v_fieldAddr rfl U33 rfl Z31 rfl rfl) fun a h=>s1 h rfl (l1 H 0 A31) fun a h=>cps 1 h rfl fun a h=>?_
 obtain ⟨c20,hS⟩:=ck hS
 obtain ⟨z21,e21,hS⟩:=bv hS
 have q_22:=rp0.gel ⟨_,nodeEnc_dflt⟩ z15
 rw [←e21] at q_22
 obtain ⟨css_22,cl_22,rc_22,hc_22,q_22⟩:=q_22
 obtain ⟨v35_22_1,hcs_22,r35_22_1⟩:=node_op q_22
 refine st_idxC h U31 Z33 rfl rfl (rc_22.at H.zin) c20.1 (hc_22 c20) hcs_22 rfl fun a v35 A35 h=>?_
 refine s1 h rfl (v_loadAtA O17 rfl A35 A33 Z33 rfl rfl) fun a h=>cps 1 h rfl fun a h=>?_
 obtain ⟨y23,f23,hS⟩:=bo hS
 refine st2 h rfl rfl rfl (dC call97 (step_leads_ok f23 H.zin r35_22_1 hp2 lp2 (hG.ext H.out))) ?_
 rintro v_ w ⟨v38_24_1,rfl,r38_24_1,X⟩ a h
 obtain ⟨Z,hsub,hadd,H⟩:=H.adopt' X
 have r35_22_1:=r35_22_1.sub hsub
 have rp0:=rp0.sub hsub
 have hp2:=hsub _ _ hp2
 have r38_24_1:=r38_24_1.sub hadd
 have A35:=At.ext A35 X
 refine z_store h H 2 rfl rfl rfl Z33 O17 rfl rfl (by obtain ⟨_,_,_,e_⟩:=(r38_24_1).form;subst e_;rfl) (by simp) O17 rfl (hl':=O4) rfl fun w H=>?_
 refine cN k h [6] [_] fun h=>?_
 cases hS
 refine r1 hr h rfl (rvA H 2 A33 Z33 O17) ⟨_,rfl,r38_24_1.sub H.back,H.out⟩
 refine c_skip<|cO h [6] [_] fun h=>?_
 refine rg fun K k=>sC h H hS rfl (fun y25 f25=>dC call21 (value_Fail_ok f25 :)) fun y25 hS w X H a h=>?_
 obtain ⟨y26,f26,hS⟩:=bo hS
 refine st2 h rfl rfl rfl (dC call32 (tree_Value_ok (x0:=y25) f26)) ?_
 rintro v_ w ⟨v40_27_1,rfl,r40_27_1,X⟩ a h
 obtain ⟨Z,hsub,hadd,H⟩:=H.adopt' X
 have rp0:=rp0.sub hsub
 have hp2:=hsub _ _ hp2
 have r40_27_1:=r40_27_1.sub (ZB.empty.trans hadd)
 refine z_store h H 2 rfl rfl rfl Z33 O17 rfl rfl (by obtain ⟨_,_,_,e_⟩:=(r40_27_1).form;subst e_;rfl) (by simp) O17 rfl (hl':=O4) rfl fun w H=>?_
 refine cz k ?_
 cases hS
 refine r1 hr h rfl (rvA H 2 A33 Z33 O17) ⟨_,rfl,r40_27_1.sub H.back,H.out⟩
 refine c_skip<|rg fun K k=>s1 h rfl (lA H 1 A26 Z26 O3) fun a h=>sC h H hS rfl (fun y28 f28=>dC call31 (value_ToBool_ok f28 :)) fun y28 hS w X H a h=>?_
 refine zA h H V26 O3 (fun x=>[_,_,_,x]) fun a p29 w X H h=>?_
 refine zS h H 3 Z26 O3 O3 O4 fun w H=>?_
 refine cN k h [2,3,6,9] O4 fun h=>?_
 refine sb ?_
 refine rg fun K k=>s1 h rfl (v_fieldAddr rfl U26 rfl Z3 rfl rfl) fun a h=>s1 h rfl (l1 H 3 A3) fun a h=>sB h hS rfl (v_eq rfl rfl) fun z31 e31 hS a h=>cps 1 h rfl fun a h=>cz k<|cI h hS rfl (fun ec32 hS=>?_) fun ec32 hS=>?_
 refine rg fun K k=>s1 h rfl (lA H 3 A26 Z26 O3) fun a h=>?_
 obtain ⟨y33,f33,hS⟩:=bo hS
 refine st2 h rfl rfl rfl (dC call32 (tree_Value_ok (x0:=y28) f33)) ?_
 rintro v_ w ⟨v48_34_1,rfl,r48_34_1,X⟩ a h
 obtain ⟨Z,hsub,hadd,H⟩:=H.adopt' X
 have rp0:=rp0.sub hsub
 have hp2:=hsub _ _ hp2
 have r48_34_1:=r48_34_1.sub (ZB.empty.trans hadd)
 refine z_store h H 2 rfl rfl rfl Z33 O17 rfl rfl (by obtain ⟨_,_,_,e_⟩:=(r48_34_1).form;subst e_;rfl) (by simp) O17 rfl (hl':=O4) rfl fun w H=>?_
 refine cN k h [6] [_] fun h=>?_
 cases hS
 refine r1 hr h rfl (rvA H 2 A33 Z33 O17) ⟨_,rfl,r48_34_1.sub H.back,H.out⟩
 refine rg fun K k=>s1 h rfl (v_fieldAddr rfl U26 rfl Z2 rfl rfl) fun a h=>s1 h rfl (l1 H 3 A2) fun a h=>sB h hS rfl (v_eq rfl rfl) fun z35 e35 hS a h=>cps 1 h rfl fun a h=>cN k h [2,3,6,49] O4 fun h=>?_
 refine cI h hS rfl (fun ec36 hS=>?_) fun ec36 hS=>?_
 refine rg fun K k=>s1 h rfl (v_fieldAddr rfl U33 rfl Z31 rfl rfl) fun a h=>s1 h rfl (l1 H 0 A31) fun a h=>?_
 obtain ⟨c37,hS⟩:=ck hS
 obtain ⟨z38,e38,hS⟩:=bv hS
 have q_39:=rp0.gel ⟨_,nodeEnc_dflt⟩ 1
 rw [←e38] at q_39
 obtain ⟨css_39,cl_39,rc_39,hc_39,q_39⟩:=q_39
 obtain ⟨v55_39_1,hcs_39,r55_39_1⟩:=node_op q_39
 refine st_idxC h U31 Z33 rfl rfl (rc_39.at H.zin) c37.1 (hc_39 c37) hcs_39 rfl fun a v55 A55 h=>?_
 refine s1 h rfl (v_loadAtA O17 rfl A55 A33 Z33 rfl rfl) fun a h=>cps 1 h rfl fun a h=>?_
 obtain ⟨y40,f40,hS⟩:=bo hS
 refine st2 h rfl rfl rfl (dC call97 (step_leads_ok f40 H.zin r55_39_1 hp2 lp2 (hG.ext H.out))) ?_
 rintro v_ w ⟨v58_41_1,rfl,r58_41_1,X⟩ a h
 obtain ⟨Z,hsub,hadd,H⟩:=H.adopt' X
 have r55_39_1:=r55_39_1.sub hsub
 have rp0:=rp0.sub hsub
 have hp2:=hsub _ _ hp2
 have r58_41_1:=r58_41_1.sub hadd
 have A55:=At.ext A55 X
 refine z_store h H 2 rfl rfl rfl Z33 O17 rfl rfl (by obtain ⟨_,_,_,e_⟩:=(r58_41_1).form;subst e_;rfl) (by simp) O17 rfl (hl':=O4) rfl fun w H=>?_
 refine cN k h [6] [_] fun h=>?_
 cases hS
 refine r1 hr h rfl (rvA H 2 A33 Z33 O17) ⟨_,rfl,r58_41_1.sub H.back,H.out⟩
 refine rg fun K k=>s1 h rfl (v_fieldAddr rfl U33 rfl Z31 rfl rfl) fun a h=>s1 h rfl (l1 H 0 A31) fun a h=>s1 h rfl (v_lenN U31 rfl rp0 H.zin) fun a h=>sB h hS rfl (v_eq rfl rfl) fun z42 e42 hS a h=>cps 1 h rfl fun a h=>cN k h [2,3,6,59] O4 fun h=>?_
 refine cI h hS rfl (fun ec43 hS=>?_) fun ec43 hS=>?_
 refine rg fun K k=>s1 h rfl (v_fieldAddr rfl U33 rfl Z31 rfl rfl) fun a h=>s1 h rfl (l1 H 0 A31) fun a h=>?_
 obtain ⟨c44,hS⟩:=ck hS
 obtain ⟨z45,e45,hS⟩:=bv hS
 have q_46:=rp0.gel ⟨_,nodeEnc_dflt⟩ 2
 rw [←e45] at q_46
 obtain ⟨css_46,cl_46,rc_46,hc_46,q_46⟩:=q_46
 obtain ⟨v66_46_1,hcs_46,r66_46_1⟩:=node_op q_46
 refine st_idxC h U31 Z33 rfl rfl (rc_46.at H.zin) c44.1 (hc_46 c44) hcs_46 rfl fun a v66 A66 h=>?_
 refine s1 h rfl (v_loadAtA O17 rfl A66 A33 Z33 rfl rfl) fun a h=>cps 1 h rfl fun a h=>?_
 obtain ⟨y47,f47,hS⟩:=bo hS
 refine st2 h rfl rfl rfl (dC call97 (step_leads_ok f47 H.zin r66_46_1 hp2 lp2 (hG.ext H.out))) ?_
 rintro v_ w ⟨v69_48_1,rfl,r69_48_1,X⟩ a h
 obtain ⟨Z,hsub,hadd,H⟩:=H.adopt' X
 have r66_46_1:=r66_46_1.sub hsub
 have rp0:=rp0.sub hsub
 have hp2:=hsub _ _ hp2
 have r69_48_1:=r69_48_1.sub hadd
 have A66:=At.ext A66 X
 refine z_store h H 2 rfl rfl rfl Z33 O17 rfl rfl (by obtain ⟨_,_,_,e_⟩:=(r69_48_1).form;subst e_;rfl) (by simp) O17 rfl (hl':=O4) rfl fun w H=>?_
 refine cN k h [6] [_] fun h=>?_
 cases hS
 refine r1 hr h rfl (rvA H 2 A33 Z33 O17) ⟨_,rfl,r69_48_1.sub H.back,H.out⟩
 refine c_skip<|rg fun K k=>sC h H hS rfl (fun y49 f49=>dC call24 (value_Bool_ok f49 :)) fun y49 hS w X H a h=>?_
 obtain ⟨y50,f50,hS⟩:=bo hS
 refine st2 h rfl rfl rfl (dC call32 (tree_Value_ok (x0:=y49) f50)) ?_
 rintro v_ w ⟨v71_51_1,rfl,r71_51_1,X⟩ a h
 obtain ⟨Z,hsub,hadd,H⟩:=H.adopt' X
 have rp0:=rp0.sub hsub
 have hp2:=hsub _ _ hp2
 have r71_51_1:=r71_51_1.sub (ZB.empty.trans hadd)
 refine z_store h H 2 rfl rfl rfl Z33 O17 rfl rfl (by obtain ⟨_,_,_,e_⟩:=(r71_51_1).form;subst e_;rfl) (by simp) O17 rfl (hl':=O4) rfl fun w H=>?_
 refine cN k h [6] [_] fun h=>?_
 cases hS
 refine r1 hr h rfl (rvA H 2 A33 Z33 O17) ⟨_,rfl,r71_51_1.sub H.back,H.out⟩
theorem step_lazy_ok {rec:Nd→(List V)→Option (Nd)} (hrec:HRWkSt0 rec) {x0:Nd} {x1:List V} {res:Nd} {w0:World} (hS:step_lazy rec x0 x1=some res) {Z:FZ} (hZ:Z.inn w0) {xv0:Value} (rp0:RdN Z xv0 nodeEnc x0.l) {pb1:Nat} (hp1:Z pb1=some (Cel ((x1:List V).flatMap vL) 39)) (lp1:x1.length=128) (hG:GW w0):Calls Tryz.prog 67 [(nA x0 xv0),.iface 35 (pt pb1)].toArray w0 (Ret fun v w=>∃ u1,v=.agg #[.int .i64 res.k,.int .i64 res.op,.int .i64 res.v.k,.int .i64 res.v.n,S res.v.s,.int .i64 res.a.c.s,.int .i64 res.a.c.c,.int .i64 res.a.c.r,.bool res.a.ac,.bool res.a.ar,.int .i64 res.b.c.s,.int .i64 res.b.c.c,.int .i64 res.b.c.r,.bool res.b.ac,.bool res.b.ar,S res.nm,u1]∧RdN (ZB Z w0.heap.size w) u1 nodeEnc res.l∧Ext w0 w):=by
 refine enS hZ func67 [0,1] O2 fun Q a Zi eZi H h hr=>?_
 try rw [←eZi] at hr
 clear eZi
 unfold step_lazy at hS
 refine rg fun K k=>z_box h H rfl O17 rfl rfl fun a p1 w X H h=>?_
 have H:HZ w0 _ _ [_] _:=H
 refine zA h H V33 O17 (fun x=>[_,x]) fun a p2 w X H h=>?_
 refine cz k<|rg fun K k=>s1 h rfl (v_fieldAddr rfl U33 rfl Z31 rfl rfl) fun a h=>s1 h rfl (l1 H 0 A31) fun a h=>?_
 obtain ⟨c3,hS⟩:=ck hS
 obtain ⟨z4,e4,hS⟩:=bv hS
 have q_5:=rp0.gel ⟨_,nodeEnc_dflt⟩ 0
 rw [←e4] at q_5
 obtain ⟨css_5,cl_5,rc_5,hc_5,q_5⟩:=q_5
 obtain ⟨v10_5_1,hcs_5,r10_5_1⟩:=node_op q_5
 refine st_idxC h U31 Z33 rfl rfl (rc_5.at H.zin) c3.1 (hc_5 c3) hcs_5 rfl fun a v10 A10 h=>?_
 refine s1 h rfl (v_loadAtA O17 rfl A10 A33 Z33 rfl rfl) fun a h=>zA h H V33 O17 (fun x=>[_,_,x]) fun a p6 w X H h=>?_
 have A10:=At.ext A10 X
 refine z_store h H 2 rfl rfl rfl Z33 O17 rfl rfl (by obtain ⟨_,_,_,e_⟩:=(r10_5_1).form;subst e_;rfl) (by simp) O17 rfl (hl':=O3) rfl fun w H=>?_
 refine cN k h [1,2,4,5] O4 fun h=>?_
 refine sq<|rg fun K k=>s1 h rfl (lA H 2 A33 Z33 O17) fun a h=>sC h H hS rfl (fun y8 f8=>dC call65 (step_done_ok f8 (r10_5_1.hz H.zin) :)) fun y8 hS w X H a h=>?_
 refine sB h hS rfl (v_not rfl) fun z9 e9 hS a h=>cz k<|cI h hS rfl (fun ec10 hS=>?_) fun ec10 hS=>?_
 refine rg fun K k=>s1 h rfl (lA H 0 A33 Z33 O17) fun a h=>cps 1 h rfl fun a h=>?_
 obtain ⟨y11,f11,hS⟩:=bo hS
 refine st2 h rfl rfl rfl (dC call96 (step_at_ok hrec f11 H.zin rp0 hp1 lp1 (hG.ext H.out))) ?_
 rintro v_ w ⟨v17_12_1,rfl,r17_12_1,X⟩ a h
 obtain ⟨Z,hsub,hadd,H⟩:=H.adopt' X
 have r10_5_1:=r10_5_1.sub hsub
 have rp0:=rp0.sub hsub
 have hp1:=hsub _ _ hp1
 have r17_12_1:=r17_12_1.sub hadd
 refine z_store h H 1 rfl rfl rfl Z33 O17 rfl rfl (by obtain ⟨_,_,_,e_⟩:=(r17_12_1).form;subst e_;rfl) (by simp) O17 rfl (hl':=O3) rfl fun w H=>?_
 refine cN k h [4] [_] fun h=>?_
 cases hS
 refine r1 hr h rfl (rvA H 1 A33 Z33 O17) ⟨_,rfl,r17_12_1.sub H.back,H.out⟩
 refine c_skip<|rg fun K k=>s1 h rfl (v_fieldAddr rfl U33 rfl Z26 rfl rfl) fun a h=>s1 h rfl (lA H 2 A26 Z26 O3) fun a h=>zA h H V26 O3 (fun x=>[_,_,_,x]) fun a p13 w X H h=>?_
 refine zS h H 3 Z26 O3 O3 O4 fun w H=>?_
 refine cN k h [1,2,4,5,6] O5 fun h=>?_
 refine sq<|rg fun K k=>s1 h rfl (v_fieldAddr rfl U33 rfl Z3 rfl rfl) fun a h=>s1 h rfl (l1 H 0 A3) fun a h=>cz k<|lb<|rg fun K k=>sB h hS rfl (v_eq rfl rfl) fun z16 e16 hS a h=>cps 1 h rfl fun a h=>cz k<|cI h hS rfl (fun ec17 hS=>?_) fun ec17 hS=>?_
 refine sq<|rg fun K k=>s1 h rfl (v_fieldAddr rfl U26 rfl Z3 rfl rfl) fun a h=>s1 h rfl (l1 H 3 A3) fun a h=>sB h hS rfl (v_eq rfl rfl) fun z19 e19 hS a h=>cN k h [1,2,4,5,26] O5 fun h=>?_
 refine cI h hS rfl (fun ec20 hS=>?_) fun ec20 hS=>?_
 refine rg fun K k=>s1 h rfl (v_fieldAddr rfl U33 rfl Z31 rfl rfl) fun a h=>s1 h rfl (l1 H 0 A31) fun a h=>?_
 obtain ⟨c21,hS⟩:=ck hS
 obtain ⟨z22,e22,hS⟩:=bv hS
 have q_23:=rp0.gel ⟨_,nodeEnc_dflt⟩ 1
 rw [←e22] at q_23
 obtain ⟨css_23,cl_23,rc_23,hc_23,q_23⟩:=q_23
 obtain ⟨v29_23_1,hcs_23,r29_23_1⟩:=node_op q_23
 refine st_idxC h U31 Z33 rfl rfl (rc_23.at H.zin) c21.1 (hc_23 c21) hcs_23 rfl fun a v29 A29 h=>?_
 refine s1 h rfl (v_loadAtA O17 rfl A29 A33 Z33 rfl rfl) fun a h=>cps 1 h rfl fun a h=>?_
 obtain ⟨y24,f24,hS⟩:=bo hS
 refine st2 h rfl rfl rfl (dC call97 (step_leads_ok f24 H.zin r29_23_1 hp1 lp1 (hG.ext H.out))) ?_
 rintro v_ w ⟨v32_25_1,rfl,r32_25_1,X⟩ a h
 obtain ⟨Z,hsub,hadd,H⟩:=H.adopt' X
 have r10_5_1:=r10_5_1.sub hsub
 have r29_23_1:=r29_23_1.sub hsub
 have rp0:=rp0.sub hsub
 have hp1:=hsub _ _ hp1
 have r32_25_1:=r32_25_1.sub hadd
 have A29:=At.ext A29 X
 refine z_store h H 1 rfl rfl rfl Z33 O17 rfl rfl (by obtain ⟨_,_,_,e_⟩:=(r32_25_1).form;subst e_;rfl) (by simp) O17 rfl (hl':=O4) rfl fun w H=>?_
 refine cN k h [4] [_] fun h=>?_
 cases hS
 refine r1 hr h rfl (rvA H 1 A33 Z33 O17) ⟨_,rfl,r32_25_1.sub H.back,H.out⟩
 refine c_skip<|rg fun K k=>s1 h rfl (lA H 2 A33 Z33 O17) fun a h=>z_store h H 1 rfl rfl rfl Z33 O17 rfl rfl (by obtain ⟨_,_,_,e_⟩:=(r10_5_1).form;subst e_;rfl) (by simp) O17 rfl (hl':=O4) rfl fun w H=>?_
 refine cN k h [4] [_] fun h=>?_
 cases hS
 refine r1 hr h rfl (rvA H 1 A33 Z33 O17) ⟨_,rfl,r10_5_1.sub H.back,H.out⟩
 obtain ⟨J27,eJ27,hS⟩:=bv hS
 refine sqJ (fun a w=>∃ (Z:FZ) (s27:Bool),J27 s27=some res∧Fr 72 [(1,.iface 35 (pt pb1)),(2,(pt p1)),(4,(pt p2)),(5,(pt p6)),(6,(pt p13)),(34,.bool s27)] a∧HZ w0 Zi Z [.blk p1 (Cel (nL x0 xv0) 33),.blk p2 (Cel [.int .i64 0,.int .i64 0,.int .i64 0,.int .i64 0,S [],.int .i64 0,.int .i64 0,.int .i64 0,.bool false,.bool false,.int .i64 0,.int .i64 0,.int .i64 0,.bool false,.bool false,S [],.slice none 0 0] 33),.blk p6 (Cel (nL z4 v10_5_1) 33),.blk p13 (Cel (vL z4.v) 26)] w∧RdN Z xv0 nodeEnc x0.l∧RdN Z v10_5_1 nodeEnc z4.l∧Z pb1=some (Cel ((x1:List V).flatMap vL) 39)) ?_ ?_
 rintro a w ⟨Z,s27,hS,h,H,rp0,r10_5_1,hp1⟩
 subst eJ27
 refine cI h hS rfl (fun ec28 hS=>?_) fun ec28 hS=>?_
 refine sq<|rg fun K k=>s1 h rfl (v_fieldAddr rfl U26 rfl Z3 rfl rfl) fun a h=>s1 h rfl (l1 H 3 A3) fun a h=>sB h hS rfl (v_eq rfl rfl) fun z30 e30 hS a h=>cz k<|cI h hS rfl (fun ec31 hS=>?_) fun ec31 hS=>?_
 refine rg fun K k=>s1 h rfl (lA H 2 A33 Z33 O17) fun a h=>z_store h H 1 rfl rfl rfl Z33 O17 rfl rfl (by obtain ⟨_,_,_,e_⟩:=(r10_5_1).form;subst e_;rfl) (by simp) O17 rfl (hl':=O4) rfl fun w H=>?_
 refine cN k h [4] [_] fun h=>?_
 cases hS
 refine r1 hr h rfl (rvA H 1 A33 Z33 O17) ⟨_,rfl,r10_5_1.sub H.back,H.out⟩
 refine c_skip<|cO h [1,2,4,6] O4 fun h=>?_
 refine rg fun K k=>s1 h rfl (lA H 0 A33 Z33 O17) fun a h=>s1 h rfl (lA H 3 A26 Z26 O3) fun a h=>cps 1 h rfl fun a h=>?_
 obtain ⟨y32,f32,hS⟩:=bo hS
 refine st2 h rfl rfl rfl (dC call98 (step_taken_ok f32 H.zin rp0 hp1 lp1 (hG.ext H.out))) ?_
 rintro v_ w ⟨v44_33_1,rfl,r44_33_1,X⟩ a h
 obtain ⟨Z,hsub,hadd,H⟩:=H.adopt' X
 have r10_5_1:=r10_5_1.sub hsub
 have rp0:=rp0.sub hsub
 have hp1:=hsub _ _ hp1
 have r44_33_1:=r44_33_1.sub hadd
 refine z_store h H 1 rfl rfl rfl Z33 O17 rfl rfl (by obtain ⟨_,_,_,e_⟩:=(r44_33_1).form;subst e_;rfl) (by simp) O17 rfl (hl':=O4) rfl fun w H=>?_
 refine cN k h [4] [_] fun h=>?_
 cases hS
 refine r1 hr h rfl (rvA H 1 A33 Z33 O17) ⟨_,rfl,r44_33_1.sub H.back,H.out⟩
 refine c_skip<|rg fun K k=>s1 h rfl (lA H 3 A26 Z26 O3) fun a h=>sC h H hS rfl (fun y34 f34=>dC call31 (value_ToBool_ok f34 :)) fun y34 hS w X H a h=>?_
 refine zA h H V26 O3 (fun x=>[_,_,_,_,x]) fun a p35 w X H h=>?_
 refine zS h H 4 Z26 O3 O3 O5 fun w H=>?_
 refine cN k h [2,4,7] O3 fun h=>?_
 refine sq<|rg fun K k=>s1 h rfl (v_fieldAddr rfl U26 rfl Z3 rfl rfl) fun a h=>s1 h rfl (l1 H 4 A3) fun a h=>sB h hS rfl (v_eq rfl rfl) fun z37 e37 hS a h=>cps 1 h rfl fun a h=>st_g h rfl rfl (gF rfl) rfl rfl (fun e0=>v_fieldAddr rfl U26 rfl Z2 rfl rfl) fun a h=>?_
 refine st_g h rfl rfl (gF rfl) rfl rfl (fun e0=>v_load1 (eg e0 rfl) A2 (H.hp.get 4 rfl) rfl) fun a h=>?_
 obtain ⟨z38,e38,hS⟩:=bv hS
 refine st_g h rfl rfl (gF rfl) rfl rfl (fun e0=>vB e38 (v_eq (eg e0 rfl) rfl)) fun a h=>?_
 refine st_g h rfl rfl (gF rfl) rfl rfl (fun e0=>v_fieldAddr rfl U33 rfl Z3 rfl rfl) fun a h=>?_
 refine st_g h rfl rfl (gF rfl) rfl rfl (fun e0=>v_load1 (eg e0 rfl) A3 (H.hp.get 0 rfl) rfl) fun a h=>?_
 obtain ⟨z39,e39,hS⟩:=bv hS
 refine st_g h rfl rfl (gF rfl) rfl rfl (fun e0=>vB e39 (v_eq (eg e0 rfl) rfl)) fun a h=>?_
 obtain ⟨z40,e40,hS⟩:=bv hS
 refine st_g h rfl rfl (gF rfl) rfl rfl (fun e0=>vB e40 (v_beq U4 (eg e0 rfl) (eg e0 rfl))) fun a h=>?_
 refine sB h hS rfl (v_or rfl rfl) fun z41 e41 hS a h=>cps 1 h rfl fun a h=>st_g h rfl rfl (gF rfl) rfl rfl (fun e0=>v_fieldAddr rfl U33 rfl Z31 rfl rfl) fun a h=>?_
 refine st_g h rfl rfl (gF rfl) rfl rfl (fun e0=>v_load1 (eg e0 rfl) A31 (H.hp.get 0 rfl) rfl) fun a h=>?_
 refine st_g h rfl rfl (gF rfl) rfl rfl (fun e0=>v_lenN U31 (eg e0 rfl) rp0 H.zin) fun a h=>?_
 obtain ⟨z42,e42,hS⟩:=bv hS
 refine st_g h rfl rfl (gF rfl) rfl rfl (fun e0=>vB e42 (v_eq (eg e0 rfl) rfl)) fun a h=>?_
 refine sB h hS rfl (v_or rfl rfl) fun z43 e43 hS a h=>cN k h [2,4,7,64] O4 fun h=>?_
 refine cI h hS rfl (fun ec44 hS=>?_) fun ec44 hS=>?_
 refine rg fun K k=>s1 h rfl (lA H 4 A26 Z26 O3) fun a h=>?_
 obtain ⟨y45,f45,hS⟩:=bo hS
 refine st2 h rfl rfl rfl (dC call32 (tree_Value_ok (x0:=y34) f45)) ?_
 rintro v_ w ⟨v66_46_1,rfl,r66_46_1,X⟩ a h
 obtain ⟨Z,hsub,hadd,H⟩:=H.adopt' X
 have r10_5_1:=r10_5_1.sub hsub
 have rp0:=rp0.sub hsub
 have hp1:=hsub _ _ hp1
 have r66_46_1:=r66_46_1.sub (ZB.empty.trans hadd)
 refine z_store h H 1 rfl rfl rfl Z33 O17 rfl rfl (by obtain ⟨_,_,_,e_⟩:=(r66_46_1).form;subst e_;rfl) (by simp) O17 rfl (hl':=O5) rfl fun w H=>?_
 refine cN k h [4] [_] fun h=>?_
 cases hS
 refine r1 hr h rfl (rvA H 1 A33 Z33 O17) ⟨_,rfl,r66_46_1.sub H.back,H.out⟩
 refine c_skip<|rg fun K k=>s1 h rfl (v_fieldAddr rfl U33 rfl Z31 rfl rfl) fun a h=>s1 h rfl (l1 H 0 A31) fun a h=>?_
 obtain ⟨c47,hS⟩:=ck hS
 obtain ⟨z48,e48,hS⟩:=bv hS
 refine z_partN_l (E:=nodeEnc) h U31 Z33 rfl rfl rp0 c47 rfl fun a v69_49 r69_49 h=>?_
 rw [←e48] at r69_49
 refine s1 h rfl (v_fieldAddr rfl U33 rfl Z31 rfl rfl) fun a h=>z_store h H 0 rfl rfl rfl Z31 [v69_49] (by rw [r69_49.cells]) rfl (by obtain ⟨_,_,_,e_⟩:=(r69_49).form;subst e_;rfl) (by simp) O17 rfl (hl':=O5) rfl fun w H=>?_
 refine cN k h [2,4] O2 fun h=>?_
 refine rg fun K k=>s1 h rfl (lA H 0 A33 Z33 O17) fun a h=>z_store h H 1 rfl rfl rfl Z33 O17 rfl rfl (by obtain ⟨_,_,_,e_⟩:=(r69_49).form;subst e_;rfl) (by simp) O17 rfl (hl':=O5) rfl fun w H=>?_
 refine cz k ?_
 cases hS
 refine r1 hr h rfl (rvA H 1 A33 Z33 O17) ⟨_,rfl,r69_49.sub H.back,H.out⟩
 refine rg fun K k=>sB h hS rfl (v_eq rfl rfl) fun z50 e50 hS a h=>cps 1 h rfl fun a h=>cN k h [1,2,4,5,6,21,34] O7 fun h=>?_
 refine cI h hS rfl (fun ec51 hS=>?_) fun ec51 hS=>?_
 exact c_skip (ex2 ⟨hS,h.to,H,rp0,r10_5_1,hp1⟩)
 refine c_lregion<|sB h hS rfl (v_eq rfl rfl) fun z52 e52 hS a h=>cps 1 h rfl fun a h=>c_lnil ?_
 exact ex2 ⟨hS,h.to,H,rp0,r10_5_1,hp1⟩
theorem step_One_B_ok {rec:Nd→(List V)→Option (Nd)} (hrec:HRWkSt0 rec) {x0:Nd} {x1:List V} {res:Nd} {w0:World} (hS:step_One_B rec x0 x1=some res) {Z:FZ} (hZ:Z.inn w0) {xv0:Value} (rp0:RdN Z xv0 nodeEnc x0.l) {pb1:Nat} (hp1:Z pb1=some (Cel ((x1:List V).flatMap vL) 39)) (lp1:x1.length=128) (hG:GW w0):Calls Tryz.prog 41 [(nA x0 xv0),.iface 35 (pt pb1)].toArray w0 (Ret fun v w=>∃ u1,v=.agg #[.int .i64 res.k,.int .i64 res.op,.int .i64 res.v.k,.int .i64 res.v.n,S res.v.s,.int .i64 res.a.c.s,.int .i64 res.a.c.c,.int .i64 res.a.c.r,.bool res.a.ac,.bool res.a.ar,.int .i64 res.b.c.s,.int .i64 res.b.c.c,.int .i64 res.b.c.r,.bool res.b.ac,.bool res.b.ar,S res.nm,u1]∧RdN (ZB Z w0.heap.size w) u1 nodeEnc res.l∧Ext w0 w):=by
 refine enS hZ func41 [0,1] O2 fun Q a Zi eZi H h hr=>?_
 try rw [←eZi] at hr
 clear eZi
 unfold step_One_B at hS
 refine rg fun K k=>z_box h H rfl O17 rfl rfl fun a p1 w X H h=>?_
 have H:HZ w0 _ _ [_] _:=H
 refine zA h H V33 O17 (fun x=>[_,x]) fun a p2 w X H h=>?_
 refine cz k<|sq<|rg fun K k=>s1 h rfl (v_fieldAddr rfl U33 rfl Z3 rfl rfl) fun a h=>s1 h rfl (l1 H 0 A3) fun a h=>cz k<|lb<|rg fun K k=>sB h hS rfl (v_eq rfl rfl) fun z5 e5 hS a h=>cps 1 h rfl fun a h=>cz k<|cI h hS rfl (fun ec6 hS=>?_) fun ec6 hS=>?_
 refine rg fun K k=>s1 h rfl (lA H 0 A33 Z33 O17) fun a h=>z_store h H 1 rfl rfl rfl Z33 O17 rfl rfl (by obtain ⟨_,_,_,e_⟩:=(rp0).form;subst e_;rfl) (by simp) O17 rfl (hl':=O2) rfl fun w H=>?_
 refine cN k h [4] [_] fun h=>?_
 cases hS
 refine r1 hr h rfl (rvA H 1 A33 Z33 O17) ⟨_,rfl,rp0.sub H.back,H.out⟩
 obtain ⟨J8,eJ8,hS⟩:=bv hS
 refine sqJ (fun a w=>∃ (Z:FZ) (s8:Bool),J8 s8=some res∧Fr 36 [(1,.iface 35 (pt pb1)),(2,(pt p1)),(4,(pt p2)),(6,.int .i64 x0.k),(10,.bool s8)] a∧HZ w0 Zi Z [.blk p1 (Cel (nL x0 xv0) 33),.blk p2 (Cel [.int .i64 0,.int .i64 0,.int .i64 0,.int .i64 0,S [],.int .i64 0,.int .i64 0,.int .i64 0,.bool false,.bool false,.int .i64 0,.int .i64 0,.int .i64 0,.bool false,.bool false,S [],.slice none 0 0] 33)] w∧RdN Z xv0 nodeEnc x0.l∧Z pb1=some (Cel ((x1:List V).flatMap vL) 39)) ?_ ?_
 rintro a w ⟨Z,s8,hS,h,H,rp0,hp1⟩
 subst eJ8
 refine cI h hS rfl (fun ec9 hS=>?_) fun ec9 hS=>?_
 refine rg fun K k=>s1 h rfl (lA H 0 A33 Z33 O17) fun a h=>s1 h rfl (v_build bld28 [] O3 rfl rfl) fun a h=>cps 1 h rfl fun a h=>?_
 obtain ⟨y10,f10,hS⟩:=bo hS
 refine st2 h rfl rfl rfl (dC call19 (eval_Eval_ok f10 H.zin rp0 hp1 lp1 (hG.ext H.out))) ?_
 rintro v_ w ⟨v17_11_1,rfl,r17_11_1,X⟩ a h
 obtain ⟨Z,hsub,hadd,H⟩:=H.adopt' X
 have rp0:=rp0.sub hsub
 have hp1:=hsub _ _ hp1
 have r17_11_1:=r17_11_1.sub (ZB.empty.trans hadd)
 refine s1 h rfl (v_fieldA O3 rfl U51 rfl A26 Z26 rfl) fun a h=>?_
 obtain ⟨y12,f12,hS⟩:=bo hS
 refine st2 h rfl rfl rfl (dC call32 (tree_Value_ok (x0:=y10.v) f12)) ?_
 rintro v_ w ⟨v19_13_1,rfl,r19_13_1,X⟩ a h
 obtain ⟨Z,hsub,hadd,H⟩:=H.adopt' X
 have r17_11_1:=r17_11_1.sub hsub
 have rp0:=rp0.sub hsub
 have hp1:=hsub _ _ hp1
 have r19_13_1:=r19_13_1.sub (ZB.empty.trans hadd)
 refine z_store h H 1 rfl rfl rfl Z33 O17 rfl rfl (by obtain ⟨_,_,_,e_⟩:=(r19_13_1).form;subst e_;rfl) (by simp) O17 rfl (hl':=O2) rfl fun w H=>?_
 refine cN k h [4] [_] fun h=>?_
 cases hS
 refine r1 hr h rfl (rvA H 1 A33 Z33 O17) ⟨_,rfl,r19_13_1.sub H.back,H.out⟩
 obtain ⟨J15,eJ15,hS⟩:=bv hS
 refine sqJ (fun a w=>∃ (Z:FZ) (s15:Bool),J15 s15=some res∧Fr 36 [(1,.iface 35 (pt pb1)),(2,(pt p1)),(4,(pt p2)),(20,.bool s15)] a∧HZ w0 Zi Z [.blk p1 (Cel (nL x0 xv0) 33),.blk p2 (Cel [.int .i64 0,.int .i64 0,.int .i64 0,.int .i64 0,S [],.int .i64 0,.int .i64 0,.int .i64 0,.bool false,.bool false,.int .i64 0,.int .i64 0,.int .i64 0,.bool false,.bool false,S [],.slice none 0 0] 33)] w∧RdN Z xv0 nodeEnc x0.l∧Z pb1=some (Cel ((x1:List V).flatMap vL) 39)) ?_ ?_
 rintro a w ⟨Z,s15,hS,h,H,rp0,hp1⟩
 subst eJ15
 refine cI h hS rfl (fun ec16 hS=>?_) fun ec16 hS=>?_
 refine rg fun K k=>s1 h rfl (lA H 0 A33 Z33 O17) fun a h=>cps 1 h rfl fun a h=>?_
 obtain ⟨y17,f17,hS⟩:=bo hS
 refine st2 h rfl rfl rfl (dC call66 (step_operator_ok hrec f17 H.zin rp0 hp1 lp1 (hG.ext H.out))) ?_
 rintro v_ w ⟨v26_18_1,rfl,r26_18_1,X⟩ a h
 obtain ⟨Z,hsub,hadd,H⟩:=H.adopt' X
 have rp0:=rp0.sub hsub
 have hp1:=hsub _ _ hp1
 have r26_18_1:=r26_18_1.sub hadd
 refine z_store h H 1 rfl rfl rfl Z33 O17 rfl rfl (by obtain ⟨_,_,_,e_⟩:=(r26_18_1).form;subst e_;rfl) (by simp) O17 rfl (hl':=O2) rfl fun w H=>?_
 refine cN k h [4] [_] fun h=>?_
 cases hS
 refine r1 hr h rfl (rvA H 1 A33 Z33 O17) ⟨_,rfl,r26_18_1.sub H.back,H.out⟩
 refine c_skip<|sq<|rg fun K k=>s1 h rfl (v_fieldAddr rfl U33 rfl Z3 rfl rfl) fun a h=>s1 h rfl (l1 H 0 A3) fun a h=>sB h hS rfl (v_le rfl rfl) fun z20 e20 hS a h=>cz k<|cI h hS rfl (fun ec21 hS=>?_) fun ec21 hS=>?_
 refine rg fun K k=>s1 h rfl (lA H 0 A33 Z33 O17) fun a h=>cps 1 h rfl fun a h=>?_
 obtain ⟨y22,f22,hS⟩:=bo hS
 refine st2 h rfl rfl rfl (dC call67 (step_lazy_ok hrec f22 H.zin rp0 hp1 lp1 (hG.ext H.out))) ?_
 rintro v_ w ⟨v32_23_1,rfl,r32_23_1,X⟩ a h
 obtain ⟨Z,hsub,hadd,H⟩:=H.adopt' X
 have rp0:=rp0.sub hsub
 have hp1:=hsub _ _ hp1
 have r32_23_1:=r32_23_1.sub hadd
 refine z_store h H 1 rfl rfl rfl Z33 O17 rfl rfl (by obtain ⟨_,_,_,e_⟩:=(r32_23_1).form;subst e_;rfl) (by simp) O17 rfl (hl':=O2) rfl fun w H=>?_
 refine cN k h [4] [_] fun h=>?_
 cases hS
 refine r1 hr h rfl (rvA H 1 A33 Z33 O17) ⟨_,rfl,r32_23_1.sub H.back,H.out⟩
 refine c_skip<|cO h [1,2,4] O3 fun h=>?_
 refine rg fun K k=>s1 h rfl (lA H 0 A33 Z33 O17) fun a h=>cps 1 h rfl fun a h=>?_
 obtain ⟨y24,f24,hS⟩:=bo hS
 refine st2 h rfl rfl rfl (dC call68 (step_strict_ok hrec f24 H.zin rp0 hp1 lp1 (hG.ext H.out))) ?_
 rintro v_ w ⟨v35_25_1,rfl,r35_25_1,X⟩ a h
 obtain ⟨Z,hsub,hadd,H⟩:=H.adopt' X
 have rp0:=rp0.sub hsub
 have hp1:=hsub _ _ hp1
 have r35_25_1:=r35_25_1.sub hadd
 refine z_store h H 1 rfl rfl rfl Z33 O17 rfl rfl (by obtain ⟨_,_,_,e_⟩:=(r35_25_1).form;subst e_;rfl) (by simp) O17 rfl (hl':=O2) rfl fun w H=>?_
 refine cN k h [4] [_] fun h=>?_
 cases hS
 refine r1 hr h rfl (rvA H 1 A33 Z33 O17) ⟨_,rfl,r35_25_1.sub H.back,H.out⟩
 refine rg fun K k=>sB h hS rfl (v_eq rfl rfl) fun z26 e26 hS a h=>cps 1 h rfl fun a h=>cz k<|cI h hS rfl (fun ec27 hS=>?_) fun ec27 hS=>?_
 exact c_skip (ex2 ⟨hS,h.to,H,rp0,hp1⟩)
 refine rg fun K k=>sB h hS rfl (v_eq rfl rfl) fun z28 e28 hS a h=>cps 1 h rfl fun a h=>cz k<|cI h hS rfl (fun ec29 hS=>?_) fun ec29 hS=>?_
 exact c_skip (ex2 ⟨hS,h.to,H,rp0,hp1⟩)
 refine c_lregion<|sB h hS rfl (v_eq rfl rfl) fun z30 e30 hS a h=>cps 1 h rfl fun a h=>c_lnil ?_
 exact ex2 ⟨hS,h.to,H,rp0,hp1⟩
 refine rg fun K k=>sB h hS rfl (v_eq rfl rfl) fun z31 e31 hS a h=>cps 1 h rfl fun a h=>cN k h [1,2,4,6,10] O5 fun h=>?_
 refine cI h hS rfl (fun ec32 hS=>?_) fun ec32 hS=>?_
 exact c_skip (ex2 ⟨hS,h.to,H,rp0,hp1⟩)
 refine rg fun K k=>sB h hS rfl (v_eq rfl rfl) fun z33 e33 hS a h=>cps 1 h rfl fun a h=>cz k<|cI h hS rfl (fun ec34 hS=>?_) fun ec34 hS=>?_
 exact c_skip (ex2 ⟨hS,h.to,H,rp0,hp1⟩)
 refine c_lregion<|sB h hS rfl (v_eq rfl rfl) fun z35 e35 hS a h=>cps 1 h rfl fun a h=>c_lnil ?_
 exact ex2 ⟨hS,h.to,H,rp0,hp1⟩
theorem step_One_ok (k:Nat):∀ {x0:Nd} {x1:List V} {res:Nd} {w0:World} (hS:step_One k x0 x1=some res) {Z:FZ} (hZ:Z.inn w0) {xv0:Value} (rp0:RdN Z xv0 nodeEnc x0.l) {pb1:Nat} (hp1:Z pb1=some (Cel ((x1:List V).flatMap vL) 39)) (lp1:x1.length=128) (hG:GW w0),Calls Tryz.prog 41 [(nA x0 xv0),.iface 35 (pt pb1)].toArray w0 (Ret fun v w=>∃ u1,v=.agg #[.int .i64 res.k,.int .i64 res.op,.int .i64 res.v.k,.int .i64 res.v.n,S res.v.s,.int .i64 res.a.c.s,.int .i64 res.a.c.c,.int .i64 res.a.c.r,.bool res.a.ac,.bool res.a.ar,.int .i64 res.b.c.s,.int .i64 res.b.c.c,.int .i64 res.b.c.r,.bool res.b.ac,.bool res.b.ar,S res.nm,u1]∧RdN (ZB Z w0.heap.size w) u1 nodeEnc res.l∧Ext w0 w):=by
 induction k with
 |zero=>intro x0 x1 res w0 hS;exact nomatch (show (none:Option (Nd))=some res from hS)
 |succ k ih=>exact @step_One_B_ok (step_One k) @ih
theorem step_All_ok {x0:Nd} {x1:List V} {res:(List (Nd))} {w0:World} (hS:step_All x0 x1=some res) {Z:FZ} (hZ:Z.inn w0) {xv0:Value} (rp0:RdN Z xv0 nodeEnc x0.l) {pb1:Nat} (hp1:Z pb1=some (Cel ((x1:List V).flatMap vL) 39)) (lp1:x1.length=128) (hG:GW w0):Calls Tryz.prog 38 [(nA x0 xv0),.iface 35 (pt pb1)].toArray w0 (Ret fun v w=>RdN (ZB Z w0.heap.size w) v nodeEnc res∧Ext w0 w):=by
 refine enS hZ func38 [0,1] O2 fun Q a Zi eZi H h hr=>?_
 try rw [←eZi] at hr
 clear eZi
 unfold step_All at hS
 refine rg fun K k=>z_box h H rfl O17 rfl rfl fun a p1 w X H h=>?_
 have H:HZ w0 _ _ [_] _:=H
 refine cps 1 h rfl fun a h=>cz k<|rg fun K k=>s1 h rfl (lA H 0 A33 Z33 O17) fun a h=>z_sliceR h H U31 Z33 V33 rfl rfl (zl:=[.int .i64 0,.int .i64 0,.int .i64 0,.int .i64 0,S [],.int .i64 0,.int .i64 0,.int .i64 0,.bool false,.bool false,.int .i64 0,.int .i64 0,.int .i64 0,.bool false,.bool false,S [],.slice none 0 0]) kR (plA_get 1 17) [_] O17 rfl rfl rfl rfl fun a v7_2 w X H h=>?_
 have el1:EL nodeEnc Z ([⟨(nL x0 xv0),rfl⟩]:List (Cl 17)) [x0]:=⟨node_mk ⟨_,rfl,rp0⟩,trivial⟩
 have H:HZ w0 _ _ O2 _:=H
 refine cps 1 h rfl fun a h=>cN k h [1,2,5] O3 fun h=>?_
 obtain ⟨J4,eJ4,hS⟩:=bv hS
 refine sqJ (fun a w=>∃ (Z:FZ) (s4:Int × Int × Int × Int × (List UInt8) × Int × Int × Int × Bool × Bool × Int × Int × Int × Bool × Bool × (List UInt8) × (List (Nd)) × (List (Nd))) (v0_16_5:Value) (sv6:Value) (cs6:List (Cl 17)),J4 s4=some res∧Fr 24 [(5,sv6)] a∧HZ w0 Zi Z [.blk p1 (Cel [.int .i64 s4.1,.int .i64 s4.2.1,.int .i64 s4.2.2.1,.int .i64 s4.2.2.2.1,S s4.2.2.2.2.1,.int .i64 s4.2.2.2.2.2.1,.int .i64 s4.2.2.2.2.2.2.1,.int .i64 s4.2.2.2.2.2.2.2.1,.bool s4.2.2.2.2.2.2.2.2.1,.bool s4.2.2.2.2.2.2.2.2.2.1,.int .i64 s4.2.2.2.2.2.2.2.2.2.2.1,.int .i64 s4.2.2.2.2.2.2.2.2.2.2.2.1,.int .i64 s4.2.2.2.2.2.2.2.2.2.2.2.2.1,.bool s4.2.2.2.2.2.2.2.2.2.2.2.2.2.1,.bool s4.2.2.2.2.2.2.2.2.2.2.2.2.2.2.1,S s4.2.2.2.2.2.2.2.2.2.2.2.2.2.2.2.1,v0_16_5] 33),.row 33 17 sv6 cs6.length (cs6.flatMap Subtype.val)] w∧RdN Z v0_16_5 nodeEnc s4.2.2.2.2.2.2.2.2.2.2.2.2.2.2.2.2.1∧EL nodeEnc Z cs6 s4.2.2.2.2.2.2.2.2.2.2.2.2.2.2.2.2.2∧Z pb1=some (Cel ((x1:List V).flatMap vL) 39)) ?_ ?_
 rintro a w ⟨Z,s4,v0_16_5,sv6,cs6,hS,h,H,r0_16_5,el1,hp1⟩
 subst eJ4
 refine rg fun K k=>cps 2 h rfl fun a h=>cz k ?_
 cases hS
 refine r1 hr h rfl rfl ⟨H.backRowN (i:=1) rfl el1,H.out⟩
 refine rg fun K k=>s1 h rfl (lA H 0 A33 Z33 O17) fun a h=>?_
 obtain ⟨y7,f7,hS⟩:=bo hS
 refine st2v (T:=Ext) (V:=.int .i64 y7) h rfl rfl rfl (dC call39 (tree_Size_ok KK f7 H.zin rp0 (hG.ext H.out))) fun w X a h=>?_
 have H:=H.ext X
 refine sI h hS rfl (v_mulw rfl rfl) fun z8 e8 hS a h=>cps 1 h rfl fun a h=>cz k<|lb ?_
 obtain ⟨B10,eB10,hS⟩:=bv hS
 refine lpJ (fun mu_ a w=>∃ (Z:FZ) (s10:Int × Int × Int × Int × Int × (List UInt8) × Int × Int × Int × Bool × Bool × Int × Int × Int × Bool × Bool × (List UInt8) × (List (Nd)) × (List (Nd))) (v0_16_12:Value) (sv13:Value) (cs13:List (Cl 17)),loopF B10 mu_ s10=some res∧Fr 24 [(1,.iface 35 (pt pb1)),(2,(pt p1)),(5,sv13),(10,.int .i64 z8),(11,.int .i64 s10.1)] a∧HZ w0 Zi Z [.blk p1 (Cel [.int .i64 s10.2.1,.int .i64 s10.2.2.1,.int .i64 s10.2.2.2.1,.int .i64 s10.2.2.2.2.1,S s10.2.2.2.2.2.1,.int .i64 s10.2.2.2.2.2.2.1,.int .i64 s10.2.2.2.2.2.2.2.1,.int .i64 s10.2.2.2.2.2.2.2.2.1,.bool s10.2.2.2.2.2.2.2.2.2.1,.bool s10.2.2.2.2.2.2.2.2.2.2.1,.int .i64 s10.2.2.2.2.2.2.2.2.2.2.2.1,.int .i64 s10.2.2.2.2.2.2.2.2.2.2.2.2.1,.int .i64 s10.2.2.2.2.2.2.2.2.2.2.2.2.2.1,.bool s10.2.2.2.2.2.2.2.2.2.2.2.2.2.2.1,.bool s10.2.2.2.2.2.2.2.2.2.2.2.2.2.2.2.1,S s10.2.2.2.2.2.2.2.2.2.2.2.2.2.2.2.2.1,v0_16_12] 33),.row 33 17 sv13 cs13.length (cs13.flatMap Subtype.val)] w∧RdN Z v0_16_12 nodeEnc s10.2.2.2.2.2.2.2.2.2.2.2.2.2.2.2.2.2.1∧EL nodeEnc Z cs13 s10.2.2.2.2.2.2.2.2.2.2.2.2.2.2.2.2.2.2∧Z pb1=some (Cel ((x1:List V).flatMap vL) 39)) KK ⟨_,_,_,_,_,hS,h.to,H,rp0,el1,hp1⟩ ?_
 rintro mu_ a w ⟨Z,s10,v0_16_12,sv13,cs13,hS,h,H,r0_16_12,el1,hp1⟩
 obtain ⟨mu_,rfl,n10,en10,hS⟩:=lpX eB10 hS
 refine rg fun K k=>sB h hS rfl (v_lt rfl rfl) fun z14 e14 hS a h=>cz k<|sq<|cI h hS rfl (fun ec16 hS=>?_) fun ec16 hS=>?_
 refine c_skip<|sb ?_
 refine sq<|rg fun K k=>s1 h rfl (lA H 0 A33 Z33 O17) fun a h=>sC h H hS rfl (fun y19 f19=>dC call65 (step_done_ok f19 (r0_16_12.hz H.zin) :)) fun y19 hS w X H a h=>?_
 refine cz k<|cI h hS rfl (fun ec20 hS=>?_) fun ec20 hS=>?_
 exact c_exit (ex5 ⟨hS,h.to,H,r0_16_12,el1,hp1⟩)
 refine c_skip<|rg fun K k=>s1 h rfl (lA H 0 A33 Z33 O17) fun a h=>cps 1 h rfl fun a h=>?_
 obtain ⟨y21,f21,hS⟩:=bo hS
 refine st2 h rfl rfl rfl (dC call41 (step_One_ok KK f21 H.zin r0_16_12 hp1 lp1 (hG.ext H.out))) ?_
 rintro v_ w ⟨v17_22_1,rfl,r17_22_1,X⟩ a h
 obtain ⟨Z,hsub,hadd,H⟩:=H.adopt' X
 have el1:=el1.sub hsub
 have r0_16_12:=r0_16_12.sub hsub
 have hp1:=hsub _ _ hp1
 have r17_22_1:=r17_22_1.sub hadd
 refine z_store h H 0 rfl rfl rfl Z33 O17 rfl rfl (by obtain ⟨_,_,_,e_⟩:=(r17_22_1).form;subst e_;rfl) (by simp) O17 rfl (hl':=O2) rfl fun w H=>?_
 refine cN k h [1,2,5,10,11] O5 fun h=>?_
 refine c_lregion<|cps 1 h rfl fun a h=>s1 h rfl (lA H 0 A33 Z33 O17) fun a h=>z_slice (enc:=(Subtype.val (p:=fun l:List Value=>l.length=17))) ([⟨(nL y21 v17_22_1),rfl⟩]:List (Cl 17)) h H U31 Z33 V33 rfl (zl:=[.int .i64 0,.int .i64 0,.int .i64 0,.int .i64 0,S [],.int .i64 0,.int .i64 0,.int .i64 0,.bool false,.bool false,.int .i64 0,.int .i64 0,.int .i64 0,.bool false,.bool false,S [],.slice none 0 0]) kR (plA_get 1 17) [_] O17 rfl rfl rfl rfl rfl fun a v20_23 Z w hsub X H r20_23 h=>?_
 have el1:=el1.sub hsub
 have r17_22_1:=r17_22_1.sub hsub
 have hp1:=hsub _ _ hp1
 have r20_23:RdN Z v20_23 nodeEnc [y21]:=⟨_,r20_23,⟨node_mk ⟨_,rfl,r17_22_1⟩,trivial⟩⟩
 obtain ⟨c25,hS⟩:=ck hS
 obtain ⟨z26,e26,hS⟩:=bv hS
 obtain ⟨cy_24,ry_24,ey_24⟩:=id r20_23
 refine z_appendS (enc:=(Subtype.val (p:=fun l:List Value=>l.length=17))) (out:=cs13) (data:=cy_24) h H 1 rfl U31 app33 rfl rfl rfl ry_24 (fun c=>c.2) ey_24.one (bnd el1.len ey_24.len c25) rfl fun a v21_24 w H h=>?_
 have el1:=EL.append el1 ey_24
 rw [←e26] at el1
 have el1:EL nodeEnc Z (List.append (α:=Cl 17) cs13 cy_24) z26:=el1
 have H:HZ w0 _ _ O2 _:=H
 refine cps 1 h rfl fun a h=>c_lnil<|cO h [1,2,5,10,11] O5 fun h=>?_
 refine c_lregion<|sI h hS rfl (v_addw rfl rfl) fun z27 e27 hS a h=>cps 1 h rfl fun a h=>c_lnil ?_
 exact exL (ex5 ⟨lpN en10 hS,h.to,H,r17_22_1,el1,hp1⟩)
 exact c_exit (ex5 ⟨hS,h.to,H,r0_16_12,el1,hp1⟩)
end Go.Proofs.YtcecjdnkcbfhlaaGreatDoor
