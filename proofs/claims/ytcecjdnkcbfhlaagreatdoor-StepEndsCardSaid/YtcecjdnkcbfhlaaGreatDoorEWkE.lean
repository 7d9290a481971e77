/- Joined texts. -/
import Derived.Test.YtcecjdnkcbfhlaaGreatDoorEFG
import Derived.Test.YtcecjdnkcbfhlaaGreatDoorES0
import Derived.Test.YtcecjdnkcbfhlaaGreatDoorEWkFD
set_option linter.unusedSimpArgs false
set_option linter.unusedVariables false
set_option linter.unusedSectionVars false
namespace Go.Proofs.YtcecjdnkcbfhlaaGreatDoor
open Go.Stp Go.RowKit Go.ValP Go.Sp _root_.Go.Proofs.Tryz
set_option maxRecDepth 100000
theorem tree_Value_ok {x0:V} {res:Nd} {w0:World} (hS:tree_Value x0=some res):Calls Tryz.prog 32 [(vA x0)].toArray w0 (Ret fun v w=>∃ u1,v=.agg #[.int .i64 res.k,.int .i64 res.op,.int .i64 res.v.k,.int .i64 res.v.n,S res.v.s,.int .i64 res.a.c.s,.int .i64 res.a.c.c,.int .i64 res.a.c.r,.bool res.a.ac,.bool res.a.ar,.int .i64 res.b.c.s,.int .i64 res.b.c.c,.int .i64 res.b.c.r,.bool res.b.ac,.bool res.b.ar,S res.nm,u1]∧RdN (ZB Z0 w0.heap.size w) u1 nodeEnc res.l∧Ext w0 w):=by
 refine en func32 [0] [_] fun Q a Zi Z hzs H h hr=>?_
 clear hzs
 unfold tree_Value at hS
 refine rg fun K k=>z_box h H rfl O3 rfl rfl fun a p1 w X H h=>?_
 have H:HZ w0 _ _ [_] _:=H
 refine zA h H V33 O17 (fun x=>[_,x]) fun a p2 w X H h=>?_
 refine cz k<|rg fun K k=>s1 h rfl (lA H 0 A26 Z26 O3) fun a h=>s1 h rfl (v_build bld33 O2 O17 rfl rfl) fun a h=>zS h H 1 Z33 O17 O17 O2 fun w H=>?_
 refine cN k h [2] [_] fun h=>?_
 cases hS
 refine r1 hr h rfl (rvA H 1 A33 Z33 O17) ⟨_,rfl,RdN.nil,H.out⟩
theorem tree_Cell_ok {x0:Rf} {res:Nd} {w0:World} (hS:tree_Cell x0=some res):Calls Tryz.prog 25 [.agg #[.int .i64 x0.c.s,.int .i64 x0.c.c,.int .i64 x0.c.r,.bool x0.ac,.bool x0.ar]].toArray w0 (Ret fun v w=>∃ u1,v=.agg #[.int .i64 res.k,.int .i64 res.op,.int .i64 res.v.k,.int .i64 res.v.n,S res.v.s,.int .i64 res.a.c.s,.int .i64 res.a.c.c,.int .i64 res.a.c.r,.bool res.a.ac,.bool res.a.ar,.int .i64 res.b.c.s,.int .i64 res.b.c.c,.int .i64 res.b.c.r,.bool res.b.ac,.bool res.b.ar,S res.nm,u1]∧RdN (ZB Z0 w0.heap.size w) u1 nodeEnc res.l∧Ext w0 w):=by
 refine en func25 [0] [_] fun Q a Zi Z hzs H h hr=>?_
 clear hzs
 unfold tree_Cell at hS
 refine rg fun K k=>z_box h H rfl O5 rfl rfl fun a p1 w X H h=>?_
 have H:HZ w0 _ _ [_] _:=H
 refine zA h H V33 O17 (fun x=>[_,x]) fun a p2 w X H h=>?_
 refine cz k<|rg fun K k=>s1 h rfl (lA H 0 isAgg30 Z30 O5) fun a h=>s1 h rfl (v_build bld33 O2 O17 rfl rfl) fun a h=>zS h H 1 Z33 O17 O17 O2 fun w H=>?_
 refine cN k h [2] [_] fun h=>?_
 cases hS
 refine r1 hr h rfl (rvA H 1 A33 Z33 O17) ⟨_,rfl,RdN.nil,H.out⟩
theorem tree_Apply_ok {x0:Int} {x1:List (Nd)} {res:Nd} {w0:World} (hS:tree_Apply x0 x1=some res) {Z:FZ} (hZ:Z.inn w0) {xv1:Value} (rp1:RdN Z xv1 nodeEnc x1):Calls Tryz.prog 26 [.int .i64 x0,xv1].toArray w0 (Ret fun v w=>∃ u1,v=.agg #[.int .i64 res.k,.int .i64 res.op,.int .i64 res.v.k,.int .i64 res.v.n,S res.v.s,.int .i64 res.a.c.s,.int .i64 res.a.c.c,.int .i64 res.a.c.r,.bool res.a.ac,.bool res.a.ar,.int .i64 res.b.c.s,.int .i64 res.b.c.c,.int .i64 res.b.c.r,.bool res.b.ac,.bool res.b.ar,S res.nm,u1]∧RdN (ZB Z w0.heap.size w) u1 nodeEnc res.l∧Ext w0 w):=by
 refine enS hZ func26 [0,1] O2 fun Q a Zi eZi H h hr=>?_
 try rw [←eZi] at hr
 clear eZi
 unfold tree_Apply at hS
 refine rg fun K k=>zA h H V33 O17 (fun x=>[x]) fun a p1 w X H h=>?_
 refine cz k<|rg fun K k=>cps 2 h rfl fun a h=>?_
 have H:=H.nilRow 33 17 rfl
 have H:HZ w0 _ _ O2 _:=H
 have el1:EL nodeEnc Z ([]:List (Cl 17)) ([]:List (Nd)):=trivial
 obtain ⟨c3,hS⟩:=ck hS
 obtain ⟨z4,e4,hS⟩:=bv hS
 obtain ⟨cy_2,ry_2,ey_2⟩:=id rp1
 refine z_appendS (enc:=(Subtype.val (p:=fun l:List Value=>l.length=17))) (out:=([]:List (Cl 17))) (data:=cy_2) h H 1 rfl U31 app33 rfl rfl rfl ry_2 (fun c=>c.2) ey_2.one (bnd el1.len ey_2.len c3) rfl fun a v7_2 w H h=>?_
 have el1:=EL.append el1 ey_2
 rw [←e4] at el1
 have el1:EL nodeEnc Z (List.append (α:=Cl 17) ([]:List (Cl 17)) cy_2) z4:=el1
 have H:HZ w0 _ _ O2 _:=H
 obtain ⟨Z,hsub,H,rz1_5⟩:=H.freezeRowN (E:=nodeEnc) 1 rfl el1
 have rp1:=rp1.sub hsub
 have H:HZ w0 _ _ O2 _:=H
 refine s1 h rfl (v_build bld33 [.int .i64 8,.int .i64 x0,v7_2] [.int .i64 8,.int .i64 x0,.int .i64 0,.int .i64 0,S [],.int .i64 0,.int .i64 0,.int .i64 0,.bool false,.bool false,.int .i64 0,.int .i64 0,.int .i64 0,.bool false,.bool false,S [],v7_2] rfl (by obtain ⟨_,_,_,e_⟩:=(rz1_5).form;subst e_;rfl)) fun a h=>z_store h H 0 rfl rfl rfl Z33 O17 rfl rfl (by obtain ⟨_,_,_,e_⟩:=(rz1_5).form;subst e_;rfl) (by simp) O17 rfl (hl':=O2) rfl fun w H=>?_
 refine cN k h [4] [_] fun h=>?_
 cases hS
 refine r1 hr h rfl (rvA H 0 A33 Z33 O17) ⟨_,rfl,rz1_5.sub H.back,H.out⟩
theorem tree_Unary_ok {x0:Int} {x1:Nd} {res:Nd} {w0:World} (hS:tree_Unary x0 x1=some res) {Z:FZ} (hZ:Z.inn w0) {xv1:Value} (rp1:RdN Z xv1 nodeEnc x1.l):Calls Tryz.prog 48 [.int .i64 x0,(nA x1 xv1)].toArray w0 (Ret fun v w=>∃ u1,v=.agg #[.int .i64 res.k,.int .i64 res.op,.int .i64 res.v.k,.int .i64 res.v.n,S res.v.s,.int .i64 res.a.c.s,.int .i64 res.a.c.c,.int .i64 res.a.c.r,.bool res.a.ac,.bool res.a.ar,.int .i64 res.b.c.s,.int .i64 res.b.c.c,.int .i64 res.b.c.r,.bool res.b.ac,.bool res.b.ar,S res.nm,u1]∧RdN (ZB Z w0.heap.size w) u1 nodeEnc res.l∧Ext w0 w):=by
 refine enS hZ func48 [0,1] O2 fun Q a Zi eZi H h hr=>?_
 try rw [←eZi] at hr
 clear eZi
 unfold tree_Unary at hS
 refine rg fun K k=>z_box h H rfl O17 rfl rfl fun a p1 w X H h=>?_
 have H:HZ w0 _ _ [_] _:=H
 refine zA h H V33 O17 (fun x=>[_,x]) fun a p2 w X H h=>?_
 refine cz k<|rg fun K k=>cps 1 h rfl fun a h=>s1 h rfl (lA H 0 A33 Z33 O17) fun a h=>z_slice (enc:=(Subtype.val (p:=fun l:List Value=>l.length=17))) ([⟨(nL x1 xv1),rfl⟩]:List (Cl 17)) h H U31 Z33 V33 rfl (zl:=[.int .i64 0,.int .i64 0,.int .i64 0,.int .i64 0,S [],.int .i64 0,.int .i64 0,.int .i64 0,.bool false,.bool false,.int .i64 0,.int .i64 0,.int .i64 0,.bool false,.bool false,S [],.slice none 0 0]) kR (plA_get 1 17) [_] O17 rfl rfl rfl rfl rfl fun a v7_3 Z w hsub X H r7_3 h=>?_
 have rp1:=rp1.sub hsub
 have r7_3:RdN Z v7_3 nodeEnc [x1]:=⟨_,r7_3,⟨node_mk ⟨_,rfl,rp1⟩,trivial⟩⟩
 refine s1 h rfl (v_build bld33 [.int .i64 x0,v7_3] [.int .i64 x0,.int .i64 0,.int .i64 0,.int .i64 0,S [],.int .i64 0,.int .i64 0,.int .i64 0,.bool false,.bool false,.int .i64 0,.int .i64 0,.int .i64 0,.bool false,.bool false,S [],v7_3] rfl (by obtain ⟨_,_,_,e_⟩:=(r7_3).form;subst e_;rfl)) fun a h=>z_store h H 1 rfl rfl rfl Z33 O17 rfl rfl (by obtain ⟨_,_,_,e_⟩:=(r7_3).form;subst e_;rfl) (by simp) O17 rfl (hl':=O2) rfl fun w H=>?_
 refine cN k h [4] [_] fun h=>?_
 cases hS
 refine r1 hr h rfl (rvA H 1 A33 Z33 O17) ⟨_,rfl,r7_3.sub H.back,H.out⟩
theorem tree_Binary_ok {x0:Int} {x1:Nd} {x2:Nd} {res:Nd} {w0:World} (hS:tree_Binary x0 x1 x2=some res) {Z:FZ} (hZ:Z.inn w0) {xv1:Value} (rp1:RdN Z xv1 nodeEnc x1.l) {xv2:Value} (rp2:RdN Z xv2 nodeEnc x2.l):Calls Tryz.prog 36 [.int .i64 x0,(nA x1 xv1),(nA x2 xv2)].toArray w0 (Ret fun v w=>∃ u1,v=.agg #[.int .i64 res.k,.int .i64 res.op,.int .i64 res.v.k,.int .i64 res.v.n,S res.v.s,.int .i64 res.a.c.s,.int .i64 res.a.c.c,.int .i64 res.a.c.r,.bool res.a.ac,.bool res.a.ar,.int .i64 res.b.c.s,.int .i64 res.b.c.c,.int .i64 res.b.c.r,.bool res.b.ac,.bool res.b.ar,S res.nm,u1]∧RdN (ZB Z w0.heap.size w) u1 nodeEnc res.l∧Ext w0 w):=by
 refine enS hZ func36 [0,1,2] O3 fun Q a Zi eZi H h hr=>?_
 try rw [←eZi] at hr
 clear eZi
 unfold tree_Binary at hS
 refine rg fun K k=>z_box h H rfl O17 rfl rfl fun a p1 w X H h=>?_
 have H:HZ w0 _ _ [_] _:=H
 refine z_box h H rfl O17 rfl rfl fun a p2 w X H h=>?_
 have H:HZ w0 _ _ O2 _:=H
 refine zA h H V33 O17 (fun x=>[_,_,x]) fun a p3 w X H h=>?_
 refine cz k<|rg fun K k=>cps 1 h rfl fun a h=>s1 h rfl (lA H 0 A33 Z33 O17) fun a h=>s1 h rfl (lA H 1 A33 Z33 O17) fun a h=>z_slice (enc:=(Subtype.val (p:=fun l:List Value=>l.length=17))) ([⟨(nL x1 xv1),rfl⟩,⟨(nL x2 xv2),rfl⟩]:List (Cl 17)) h H U31 Z33 V33 rfl (zl:=[.int .i64 0,.int .i64 0,.int .i64 0,.int .i64 0,S [],.int .i64 0,.int .i64 0,.int .i64 0,.bool false,.bool false,.int .i64 0,.int .i64 0,.int .i64 0,.bool false,.bool false,S [],.slice none 0 0,.int .i64 0,.int .i64 0,.int .i64 0,.int .i64 0,S [],.int .i64 0,.int .i64 0,.int .i64 0,.bool false,.bool false,.int .i64 0,.int .i64 0,.int .i64 0,.bool false,.bool false,S [],.slice none 0 0]) kR (plA_get 2 17) O2 O34 rfl rfl rfl rfl rfl fun a v10_4 Z w hsub X H r10_4 h=>?_
 have rp1:=rp1.sub hsub
 have rp2:=rp2.sub hsub
 have r10_4:RdN Z v10_4 nodeEnc [x1,x2]:=⟨_,r10_4,⟨node_mk ⟨_,rfl,rp1⟩,node_mk ⟨_,rfl,rp2⟩,trivial⟩⟩
 refine s1 h rfl (v_build bld33 [.int .i64 7,.int .i64 x0,v10_4] [.int .i64 7,.int .i64 x0,.int .i64 0,.int .i64 0,S [],.int .i64 0,.int .i64 0,.int .i64 0,.bool false,.bool false,.int .i64 0,.int .i64 0,.int .i64 0,.bool false,.bool false,S [],v10_4] rfl (by obtain ⟨_,_,_,e_⟩:=(r10_4).form;subst e_;rfl)) fun a h=>z_store h H 2 rfl rfl rfl Z33 O17 rfl rfl (by obtain ⟨_,_,_,e_⟩:=(r10_4).form;subst e_;rfl) (by simp) O17 rfl (hl':=O3) rfl fun w H=>?_
 refine cN k h [6] [_] fun h=>?_
 cases hS
 refine r1 hr h rfl (rvA H 2 A33 Z33 O17) ⟨_,rfl,r10_4.sub H.back,H.out⟩
theorem tree_Span_ok {x0:Rf} {x1:Rf} {res:Nd} {w0:World} (hS:tree_Span x0 x1=some res):Calls Tryz.prog 35 [.agg #[.int .i64 x0.c.s,.int .i64 x0.c.c,.int .i64 x0.c.r,.bool x0.ac,.bool x0.ar],.agg #[.int .i64 x1.c.s,.int .i64 x1.c.c,.int .i64 x1.c.r,.bool x1.ac,.bool x1.ar]].toArray w0 (Ret fun v w=>∃ u1,v=.agg #[.int .i64 res.k,.int .i64 res.op,.int .i64 res.v.k,.int .i64 res.v.n,S res.v.s,.int .i64 res.a.c.s,.int .i64 res.a.c.c,.int .i64 res.a.c.r,.bool res.a.ac,.bool res.a.ar,.int .i64 res.b.c.s,.int .i64 res.b.c.c,.int .i64 res.b.c.r,.bool res.b.ac,.bool res.b.ar,S res.nm,u1]∧RdN (ZB Z0 w0.heap.size w) u1 nodeEnc res.l∧Ext w0 w):=by
 refine en func35 [0,1] O2 fun Q a Zi Z hzs H h hr=>?_
 clear hzs
 unfold tree_Span at hS
 refine rg fun K k=>z_box h H rfl O5 rfl rfl fun a p1 w X H h=>?_
 have H:HZ w0 _ _ [_] _:=H
 refine z_box h H rfl O5 rfl rfl fun a p2 w X H h=>?_
 have H:HZ w0 _ _ O2 _:=H
 refine zA h H V33 O17 (fun x=>[_,_,x]) fun a p3 w X H h=>?_
 refine cz k<|rg fun K k=>s1 h rfl (lA H 0 isAgg30 Z30 O5) fun a h=>s1 h rfl (lA H 1 isAgg30 Z30 O5) fun a h=>s1 h rfl (v_build bld33 O3 O17 rfl rfl) fun a h=>zS h H 2 Z33 O17 O17 O3 fun w H=>?_
 refine cN k h [4] [_] fun h=>?_
 cases hS
 refine r1 hr h rfl (rvA H 2 A33 Z33 O17) ⟨_,rfl,RdN.nil,H.out⟩
theorem addr_Order_ok {x0:C} {x1:C} {res:C × C × Bool} {w0:World} (hS:addr_Order x0 x1=some res):Calls Tryz.prog 77 [(cA x0),(cA x1)].toArray w0 (Ret fun v w=>v=.tuple #[(cA res.1),(cA res.2.1),.bool res.2.2]∧Ext w0 w):=by
 refine en func77 [0,1] O2 fun Q a Zi Z hzs H h hr=>?_
 clear hzs
 unfold addr_Order at hS
 refine rg fun K k=>z_box h H rfl O3 rfl rfl fun a p1 w X H h=>?_
 have H:HZ w0 _ _ [_] _:=H
 refine z_box h H rfl O3 rfl rfl fun a p2 w X H h=>?_
 have H:HZ w0 _ _ O2 _:=H
 refine zA h H V28 O3 (fun x=>[_,_,x]) fun a p3 w X H h=>?_
 refine zA h H V28 O3 (fun x=>[_,_,_,x]) fun a p4 w X H h=>?_
 refine cps 1 h rfl fun a h=>cz k<|sq<|rg fun K k=>s1 h rfl (v_fieldAddr rfl U28 rfl Z3 rfl rfl) fun a h=>s1 h rfl (l1 H 0 A3) fun a h=>s1 h rfl (v_fieldAddr rfl U28 rfl Z3 rfl rfl) fun a h=>s1 h rfl (l1 H 1 A3) fun a h=>sB h hS rfl (v_ne rfl rfl) fun z6 e6 hS a h=>cN k h [2,3,4,5,11] O5 fun h=>?_
 refine cI h hS rfl (fun ec7 hS=>?_) fun ec7 hS=>?_
 refine lt [2,3] h H ?_
 refine L1 rfl (fun w X=>have H:=X;lA H 0 A28 Z28 O3) ?_
 refine L1 rfl (fun w X=>have H:=X;lA H 1 A28 Z28 O3) ?_
 refine LZ 2 Z28 O3 O3 O4 ?_
 refine LZ 3 Z28 O3 O3 O4 ?_
 refine lcps 1 rfl ?_
 refine lE [4,5,6] O3 fun a w H h=>?_
 have H:HZ w0 _ _ O4 _:=H
 cases hS
 refine r3 hr h rfl (rvA H 2 A28 Z28 O3) (rvA H 3 A28 Z28 O3) rfl ⟨rfl,H.out⟩
 refine c_skip<|lt [2,3] h H ?_
 refine L1 rfl (fun w X=>v_fieldAddr rfl U28 rfl Z3 rfl rfl) ?_
 refine L1 rfl (fun w X=>have H:=X;l1 H 0 A3) ?_
 refine L1 rfl (fun w X=>v_fieldAddr rfl U28 rfl Z3 rfl rfl) ?_
 refine L1 rfl (fun w X=>have H:=X;l1 H 0 A3) ?_
 refine L1 rfl (fun w X=>v_fieldAddr rfl U28 rfl Z3 rfl rfl) ?_
 refine L1 rfl (fun w X=>have H:=X;l1 H 1 A3) ?_
 refine lI hS rfl (fun w X=>v_min U3 rfl rfl) fun z8 e8 hS=>?_
 refine L1 rfl (fun w X=>v_fieldAddr rfl U28 rfl Z3 rfl rfl) ?_
 refine L1 rfl (fun w X=>have H:=X;l1 H 0 A3) ?_
 refine L1 rfl (fun w X=>v_fieldAddr rfl U28 rfl Z3 rfl rfl) ?_
 refine L1 rfl (fun w X=>have H:=X;l1 H 1 A3) ?_
 refine lI hS rfl (fun w X=>v_min U3 rfl rfl) fun z9 e9 hS=>?_
 refine L1 rfl (fun w X=>v_build bld28 O3 O3 rfl rfl) ?_
 refine L1 rfl (fun w X=>v_fieldAddr rfl U28 rfl Z3 rfl rfl) ?_
 refine L1 rfl (fun w X=>have H:=X;l1 H 0 A3) ?_
 refine L1 rfl (fun w X=>v_fieldAddr rfl U28 rfl Z3 rfl rfl) ?_
 refine L1 rfl (fun w X=>have H:=X;l1 H 0 A3) ?_
 refine L1 rfl (fun w X=>v_fieldAddr rfl U28 rfl Z3 rfl rfl) ?_
 refine L1 rfl (fun w X=>have H:=X;l1 H 1 A3) ?_
 refine lI hS rfl (fun w X=>v_max U3 rfl rfl) fun z10 e10 hS=>?_
 refine L1 rfl (fun w X=>v_fieldAddr rfl U28 rfl Z3 rfl rfl) ?_
 refine L1 rfl (fun w X=>have H:=X;l1 H 0 A3) ?_
 refine L1 rfl (fun w X=>v_fieldAddr rfl U28 rfl Z3 rfl rfl) ?_
 refine L1 rfl (fun w X=>have H:=X;l1 H 1 A3) ?_
 refine lI hS rfl (fun w X=>v_max U3 rfl rfl) fun z11 e11 hS=>?_
 refine L1 rfl (fun w X=>v_build bld28 O3 O3 rfl rfl) ?_
 refine LZ 2 Z28 O3 O3 O4 ?_
 refine LZ 3 Z28 O3 O3 O4 ?_
 refine lcps 1 rfl ?_
 refine lE [4,5,6] O3 fun a w H h=>?_
 have H:HZ w0 _ _ O4 _:=H
 cases hS
 refine r3 hr h rfl (rvA H 2 A28 Z28 O3) (rvA H 3 A28 Z28 O3) rfl ⟨rfl,H.out⟩
theorem reckonerref13_Place_At_ok {x0:List V} {x1:C} {res:V} {w0:World} (hS:reckonerref13_Place_At x0 x1=some res) {Z:FZ} (hZ:Z.inn w0) {pb0:Nat} (hp0:Z pb0=some (Cel ((x0:List V).flatMap vL) 39)) (lp0:x0.length=128):Calls Tryz.prog 18 [(pt pb0),(cA x1)].toArray w0 (Ret fun v w=>v=.agg #[.int .i64 res.k,.int .i64 res.n,S res.s]∧Ext w0 w):=by
 refine enS hZ func18 [0,1] O2 fun Q a Zi eZi H h hr=>?_
 try rw [←eZi] at hr
 clear eZi
 unfold reckonerref13_Place_At at hS
 refine rg fun K k=>z_box h H rfl O3 rfl rfl fun a p1 w X H h=>?_
 have H:HZ w0 _ _ [_] _:=H
 refine zA h H V26 O3 (fun x=>[_,x]) fun a p2 w X H h=>?_
 refine cz k<|sq<|rg fun K k=>s1 h rfl (v_fieldAddr rfl U28 rfl Z3 rfl rfl) fun a h=>s1 h rfl (l1 H 0 A3) fun a h=>sB h hS rfl (v_lt rfl rfl) fun z4 e4 hS a h=>cps 1 h rfl fun a h=>st_g h rfl rfl (gF rfl) rfl rfl (fun e0=>v_fieldAddr rfl U28 rfl Z3 rfl rfl) fun a h=>?_
 refine st_g h rfl rfl (gF rfl) rfl rfl (fun e0=>v_load1 (eg e0 rfl) A3 (H.hp.get 0 rfl) rfl) fun a h=>?_
 obtain ⟨z5,e5,hS⟩:=bv hS
 refine st_g h rfl rfl (gF rfl) rfl rfl (fun e0=>vB e5 (v_gt (eg e0 rfl) rfl)) fun a h=>?_
 refine sB h hS rfl (v_or rfl rfl) fun z6 e6 hS a h=>cps 1 h rfl fun a h=>st_g h rfl rfl (gF rfl) rfl rfl (fun e0=>v_fieldAddr rfl U28 rfl Z3 rfl rfl) fun a h=>?_
 refine st_g h rfl rfl (gF rfl) rfl rfl (fun e0=>v_load1 (eg e0 rfl) A3 (H.hp.get 0 rfl) rfl) fun a h=>?_
 obtain ⟨z7,e7,hS⟩:=bv hS
 refine st_g h rfl rfl (gF rfl) rfl rfl (fun e0=>vB e7 (v_lt (eg e0 rfl) rfl)) fun a h=>?_
 refine sB h hS rfl (v_or rfl rfl) fun z8 e8 hS a h=>cps 1 h rfl fun a h=>st_g h rfl rfl (gF rfl) rfl rfl (fun e0=>v_fieldAddr rfl U28 rfl Z3 rfl rfl) fun a h=>?_
 refine st_g h rfl rfl (gF rfl) rfl rfl (fun e0=>v_load1 (eg e0 rfl) A3 (H.hp.get 0 rfl) rfl) fun a h=>?_
 obtain ⟨z9,e9,hS⟩:=bv hS
 refine st_g h rfl rfl (gF rfl) rfl rfl (fun e0=>vB e9 (v_gt (eg e0 rfl) rfl)) fun a h=>?_
 refine sB h hS rfl (v_or rfl rfl) fun z10 e10 hS a h=>cps 1 h rfl fun a h=>st_g h rfl rfl (gF rfl) rfl rfl (fun e0=>v_fieldAddr rfl U28 rfl Z3 rfl rfl) fun a h=>?_
 refine st_g h rfl rfl (gF rfl) rfl rfl (fun e0=>v_load1 (eg e0 rfl) A3 (H.hp.get 0 rfl) rfl) fun a h=>?_
 obtain ⟨z11,e11,hS⟩:=bv hS
 refine st_g h rfl rfl (gF rfl) rfl rfl (fun e0=>vB e11 (v_lt (eg e0 rfl) rfl)) fun a h=>?_
 refine sB h hS rfl (v_or rfl rfl) fun z12 e12 hS a h=>cps 1 h rfl fun a h=>st_g h rfl rfl (gF rfl) rfl rfl (fun e0=>v_fieldAddr rfl U28 rfl Z3 rfl rfl) fun a h=>?_
 refine st_g h rfl rfl (gF rfl) rfl rfl (fun e0=>v_load1 (eg e0 rfl) A3 (H.hp.get 0 rfl) rfl) fun a h=>?_
 obtain ⟨z13,e13,hS⟩:=bv hS
 refine st_g h rfl rfl (gF rfl) rfl rfl (fun e0=>vB e13 (v_gt (eg e0 rfl) rfl)) fun a h=>?_
 refine sB h hS rfl (v_or rfl rfl) fun z14 e14 hS a h=>cN k h [0,3,4,32] O4 fun h=>?_
 refine cI h hS rfl (fun ec15 hS=>?_) fun ec15 hS=>?_
 refine rg fun K k=>s1 h rfl (v_build bld26 [] O3 rfl rfl) fun a h=>zS h H 1 Z26 O3 O3 O2 fun w H=>?_
 refine cN k h [4] [_] fun h=>?_
 cases hS
 refine r1 hr h rfl (rvA H 1 A26 Z26 O3) ⟨rfl,H.out⟩
 refine c_skip<|flT 14 h fun K k=>?_
 refine fcps 1 rfl ?_
 refine F1 rfl (fun w X=>v_fieldAddr rfl U28 rfl Z3 rfl rfl) ?_
 refine F1 rfl (fun w X=>have H:=H.ext X;l1 H 0 A3) ?_
 refine F1 rfl (fun w X=>v_fieldAddr rfl U28 rfl Z3 rfl rfl) ?_
 refine F1 rfl (fun w X=>have H:=H.ext X;l1 H 0 A3) ?_
 refine fI hS rfl (fun w X=>v_mulw rfl rfl) fun z16 e16 hS=>?_
 refine F1 rfl (fun w X=>v_fieldAddr rfl U28 rfl Z3 rfl rfl) ?_
 refine F1 rfl (fun w X=>have H:=H.ext X;l1 H 0 A3) ?_
 refine fI hS rfl (fun w X=>v_addw rfl rfl) fun z17 e17 hS=>?_
 refine F1 rfl (fun w X=>v_nilCheck rfl) ?_
 refine F1 rfl (fun w X=>v_fieldAddr rfl underlying39 rfl sizeOf37 rfl rfl) ?_
 obtain ⟨c18,hS⟩:=ck hS
 refine F1 rfl (fun w X=>v_idxArrG underlying37 sizeOf36 rfl rfl c18) ?_
 obtain ⟨c19,hS⟩:=ck hS
 refine F1 rfl (fun w X=>v_idxArrG underlying36 Z26 rfl rfl c19) ?_
 obtain ⟨z20,e20,hS⟩:=bv hS
 refine F1 (V:=(vA z20)) rfl (fun w X=>have H:=H.ext X;v_loadEl (enc:=vL) (xs:=x0) (Int.toNat (64*x1.s+z17)) rfl A26 Z26 (H.zin _ _ hp0) (by rw [e20];exact gel_some (by omega)) (by dsimp only;omega) (fun _=>rfl)) ?_
 refine fE [4,47] O2 H fun a w X H h=>?_
 refine zS h H 1 Z26 O3 O3 O2 fun w H=>?_
 refine cz k ?_
 cases hS
 refine r1 hr h rfl (rvA H 1 A26 Z26 O3) ⟨rfl,H.out⟩
theorem reckonerref13_Place_Value_ok {x0:List V} {x1:C} {res:V × C} {w0:World} (hS:reckonerref13_Place_Value x0 x1=some res) {Z:FZ} (hZ:Z.inn w0) {pb0:Nat} (hp0:Z pb0=some (Cel ((x0:List V).flatMap vL) 39)) (lp0:x0.length=128):Calls Tryz.prog 284 [(pt pb0),(cA x1)].toArray w0 (Ret fun v w=>v=.tuple #[(vA res.1),(cA res.2)]∧Ext w0 w):=by
 refine enS hZ func284 [0,1] O2 fun Q a Zi eZi H h hr=>?_
 try rw [←eZi] at hr
 clear eZi
 unfold reckonerref13_Place_Value at hS
 refine rg fun K k=>z_box h H rfl O3 rfl rfl fun a p1 w X H h=>?_
 have H:HZ w0 _ _ [_] _:=H
 refine zA h H V26 O3 (fun x=>[_,x]) fun a p2 w X H h=>?_
 refine zA h H V28 O3 (fun x=>[_,_,x]) fun a p3 w X H h=>?_
 refine cz k<|rg fun K k=>cps 1 h rfl fun a h=>s1 h rfl (lA H 0 A28 Z28 O3) fun a h=>?_
 obtain ⟨y4,f4,hS⟩:=bo hS
 refine st2v (T:=Ext) (V:=(vA y4)) h rfl rfl rfl (dC call18 (reckonerref13_Place_At_ok f4 H.zin hp0 lp0)) fun w X a h=>?_
 have H:=H.ext X
 refine zA h H V26 O3 (fun x=>[_,_,_,x]) fun a p5 w X H h=>?_
 refine zS h H 3 Z26 O3 O3 O4 fun w H=>?_
 refine cN k h [3,4,5,6] O4 fun h=>?_
 refine sq<|rg fun K k=>s1 h rfl (v_fieldAddr rfl U26 rfl Z3 rfl rfl) fun a h=>s1 h rfl (l1 H 3 A3) fun a h=>sB h hS rfl (v_eq rfl rfl) fun z7 e7 hS a h=>cz k<|cI h hS rfl (fun ec8 hS=>?_) fun ec8 hS=>?_
 refine lt [1,2] h H ?_
 refine L1 rfl (fun w X=>have H:=X;lA H 3 A26 Z26 O3) ?_
 refine L1 rfl (fun w X=>have H:=X;lA H 0 A28 Z28 O3) ?_
 refine LZ 1 Z26 O3 O3 O4 ?_
 refine LZ 2 Z28 O3 O3 O4 ?_
 refine lE [4,5] O2 fun a w H h=>?_
 have H:HZ w0 _ _ O4 _:=H
 cases hS
 refine r2 hr h rfl (rvA H 1 A26 Z26 O3) (rvA H 2 A28 Z28 O3) ⟨rfl,H.out⟩
 refine c_skip<|cO h [4,5,6] O3 fun h=>?_
 refine rg fun K k=>s1 h rfl (lA H 3 A26 Z26 O3) fun a h=>s1 h rfl (v_build bld28 [] O3 rfl rfl) fun a h=>zS h H 1 Z26 O3 O3 O4 fun w H=>?_
 refine zS h H 2 Z28 O3 O3 O4 fun w H=>?_
 refine cz k ?_
 cases hS
 refine r2 hr h rfl (rvA H 1 A26 Z26 O3) (rvA H 2 A28 Z28 O3) ⟨rfl,H.out⟩
theorem reckonerref13_Place_Name_ok {x0:List V} {x1:List UInt8} {res:Nd × Bool} {w0:World} (hS:reckonerref13_Place_Name x0 x1=some res) {Z:FZ} (hZ:Z.inn w0) {pb0:Nat} (hp0:Z pb0=some (Cel ((x0:List V).flatMap vL) 39)) (lp0:x0.length=128):Calls Tryz.prog 283 [(pt pb0),S x1].toArray w0 (Ret fun v w=>∃ u1,v=.tuple #[(nA res.1 u1),.bool res.2]∧RdN (ZB Z w0.heap.size w) u1 nodeEnc res.1.l∧Ext w0 w):=by
 refine enS hZ func283 [1] [_] fun Q a Zi eZi H h hr=>?_
 try rw [←eZi] at hr
 clear eZi
 unfold reckonerref13_Place_Name at hS
 refine rg fun K k=>zA h H V33 O17 (fun x=>[x]) fun a p1 w X H h=>?_
 refine cps 1 h rfl fun a h=>cz k<|rg fun K k=>s1 h rfl (v_build bld30 [] O5 rfl rfl) fun a h=>zA h H zeroValue30 O5 (fun x=>[_,x]) fun a p2 w X H h=>?_
 refine zS h H 1 Z30 O5 O5 O2 fun w H=>?_
 refine cz k<|rg fun K k=>s1 h rfl (v_fieldAddr rfl U30 rfl Z28 rfl rfl) fun a h=>s1 h rfl (v_fieldAddr rfl U28 rfl Z3 rfl rfl) fun a h=>zS h H 1 Z3 [_] O5 O2 fun w H=>?_
 refine cN k h [1,4,6] O3 fun h=>?_
 refine rg fun K k=>s1 h rfl (v_fieldAddr rfl U30 rfl Z28 rfl rfl) fun a h=>s1 h rfl (v_fieldAddr rfl U28 rfl Z3 rfl rfl) fun a h=>zS h H 1 Z3 [_] O5 O2 fun w H=>?_
 refine cz k<|sq<|rg fun K k=>cps 1 h rfl fun a h=>sB h hS rfl (v_seq rfl rfl) fun z4 e4 hS a h=>cz k<|cI h hS rfl (fun ec5 hS=>?_) fun ec5 hS=>?_
 refine rg fun K k=>s1 h rfl (v_build bld33 [_] O17 rfl rfl) fun a h=>zS h H 0 Z33 O17 O17 O2 fun w H=>?_
 refine cps 1 h rfl fun a h=>cN k h [4,5] O2 fun h=>?_
 cases hS
 refine r2 hr h rfl (rvA H 0 A33 Z33 O17) rfl ⟨_,rfl,RdN.nil,H.out⟩
 refine c_skip<|cO h [1,4,6] O3 fun h=>?_
 refine sq<|rg fun K k=>cps 1 h rfl fun a h=>sB h hS rfl (v_seq rfl rfl) fun z7 e7 hS a h=>cz k<|cI h hS rfl (fun ec8 hS=>?_) fun ec8 hS=>?_
 refine rg fun K k=>s1 h rfl (lA H 1 isAgg30 Z30 O5) fun a h=>s1 h rfl (v_build bld33 O2 O17 rfl rfl) fun a h=>zS h H 0 Z33 O17 O17 O2 fun w H=>?_
 refine cps 1 h rfl fun a h=>cN k h [4,5] O2 fun h=>?_
 cases hS
 refine r2 hr h rfl (rvA H 0 A33 Z33 O17) rfl ⟨_,rfl,RdN.nil,H.out⟩
 refine c_skip<|cO h [4] [_] fun h=>?_
 refine rg fun K k=>s1 h rfl (v_build bld33 [] O17 rfl rfl) fun a h=>zS h H 0 Z33 O17 O17 O2 fun w H=>?_
 refine cps 1 h rfl fun a h=>cz k ?_
 cases hS
 refine r2 hr h rfl (rvA H 0 A33 Z33 O17) rfl ⟨_,rfl,RdN.nil,H.out⟩
theorem reckonerlaw13_Place_ok {x0:List (V)} {res:List V} {w0:World} (hS:reckonerlaw13_Place x0=some res) {Z:FZ} (hZ:Z.inn w0) {xv0:Value} (rp0:RdZ Z xv0 3 vL x0):Calls Tryz.prog 23 [xv0].toArray w0 (Ret fun v w=>∃ (u1:Nat),v=(pt u1)∧(w0.heap.size≤u1∧w.heap[u1]?=some (Cel ((res:List V).flatMap vL) 39)∧res.length=128)∧Ext w0 w):=by
 refine enS hZ func23 [0] [_] fun Q a Zi eZi H h hr=>?_
 try rw [←eZi] at hr
 clear eZi
 unfold reckonerlaw13_Place at hS
 refine rg fun K k=>cps 1 h rfl fun a h=>cz k<|rg fun K k=>s1 (V:=.agg (zeroPl.flatMap vL).toArray) h rfl (v_buildZ bldZ) fun a h=>z_box h H rfl (zeroPl.flatMap vL) rfl rfl fun a p1 w X H h=>?_
 have H:HZ w0 _ _ [_] _:=H
 have lp0:=zeroPl_len
 refine cps 1 h rfl fun a h=>cz k ?_
 obtain ⟨J3,eJ3,hS⟩:=bv hS
 refine sqJ (fun a w=>∃ (Z:FZ) (s3:(List V)),J3 s3=some res∧Fr 39 [(3,(pt p1))] a∧HZ w0 Zi Z [.blk p1 (Cel ((s3:List V).flatMap vL) 39)] w∧s3.length=128) ?_ ?_
 rintro a w ⟨Z,s3,hS,h,H,lp0⟩
 subst eJ3
 refine rg fun K k=>cps 2 h rfl fun a h=>cz k ?_
 cases hS
 refine r1 hr h rfl rfl ⟨_,rfl,⟨H.hp.newB (i:=0) rfl,H.hp.get 0 rfl,lp0⟩,H.out⟩
 refine rg fun K k=>cps 1 h rfl fun a h=>s1 h rfl (v_len U63 rfl (rp0.at H.zin)) fun a h=>cps 1 h rfl fun a h=>cN k h [3,8,9,10] O4 fun h=>?_
 refine lb ?_
 obtain ⟨B5,eB5,hS⟩:=bv hS
 refine lpJ (fun mu_ a w=>∃ (Z:FZ) (s5:Int × (List V)),loopF B5 mu_ s5=some res∧Fr 39 [(3,(pt p1)),(8,xv0),(9,.int .i64 (x0.length:Int)),(10,.int .i64 s5.1)] a∧HZ w0 Zi Z [.blk p1 (Cel ((s5.2:List V).flatMap vL) 39)] w∧RdZ Z xv0 3 vL x0∧s5.2.length=128) KK ⟨_,_,hS,h.to,H,rp0,lp0⟩ ?_
 rintro mu_ a w ⟨Z,s5,hS,h,H,rp0,lp0⟩
 obtain ⟨mu_,rfl,n5,en5,hS⟩:=lpX eB5 hS
 refine rg fun K k=>sB h hS rfl (v_lt rfl rfl) fun z7 e7 hS a h=>cz k<|sq<|cI h hS rfl (fun ec9 hS=>?_) fun ec9 hS=>?_
 refine c_skip<|sb ?_
 refine rg fun K k=>cps 1 h rfl fun a h=>?_
 obtain ⟨c11,hS⟩:=ck hS
 obtain ⟨z12,e12,hS⟩:=bv hS
 refine st_idx h U63 Z26 rfl rfl (rp0.at H.zin) (fun _=>rfl) z12 c11.1 (by rw [e12];exact gel_some c11) rfl fun a v13 A13 h=>?_
 refine s1 h rfl (v_loadAtA O3 rfl A13 A26 Z26 rfl rfl) fun a h=>zA h H V26 O3 (fun x=>[_,x]) fun a p13 w X H h=>?_
 have A13:=At.ext A13 X
 refine cps 1 h rfl fun a h=>zS h H 1 Z26 O3 O3 O2 fun w H=>?_
 refine cz k<|rg fun K k=>cps 1 h rfl fun a h=>sB h hS rfl (v_lt rfl rfl) fun z14 e14 hS a h=>cps 1 h rfl fun a h=>st_g h rfl rfl (gT rfl) rfl rfl (fun e0=>v_fieldAddr rfl U26 rfl Z9 rfl rfl) fun a h=>?_
 refine st_g h rfl rfl (gT rfl) rfl rfl (fun e0=>v_load1 (eg e0 rfl) A9 (H.hp.get 1 rfl) rfl) fun a h=>?_
 refine st_g h rfl rfl (gT rfl) rfl rfl (fun e0=>v_slen U9 (eg e0 rfl)) fun a h=>?_
 obtain ⟨z15,e15,hS⟩:=bv hS
 refine st_g h rfl rfl (gT rfl) rfl rfl (fun e0=>vB e15 (v_le (eg e0 rfl) rfl)) fun a h=>?_
 refine sB h hS rfl (v_and rfl rfl) fun z16 e16 hS a h=>cps 1 h rfl fun a h=>st_g h rfl rfl (gT rfl) rfl rfl (fun e0=>lA H 1 A26 Z26 O3) fun a h=>?_
 obtain ⟨y17,f17,hS⟩:=bo hS
 refine st_gd (T:=Ext) (V:=.bool y17) h rfl rfl (gT rfl) rfl rfl (Ext.refl _) (fun e0=>d_call [_] (evs_c (eg e0 rfl) evs_n) call63 (value_Right_ok (x0:=z12) (ifT e0 f17))) fun w X a h=>?_
 have H:=H.ext X
 refine sB h hS rfl (v_and rfl rfl) fun z18 e18 hS a h=>cN k h [3,4,5,8,9,10,26] O7 fun h=>?_
 refine cI h hS rfl (fun ec19 hS=>?_) fun ec19 hS=>?_
 refine c_lflowT 10 h kR kR ?_
 refine fcps 2 rfl ?_
 refine fI hS rfl (fun w X=>v_bits_and rfl rfl) fun z20 e20 hS=>?_
 refine fcps 1 rfl ?_
 refine fI hS rfl (fun w X=>v_quow rfl rfl (by decide)) fun z21 e21 hS=>?_
 refine F1 rfl (fun w X=>have H:=H.ext X;lA H 1 A26 Z26 O3) ?_
 refine F1 rfl (fun w X=>v_nilCheck rfl) ?_
 refine F1 rfl (fun w X=>v_fieldAddr rfl underlying39 rfl sizeOf37 rfl rfl) ?_
 obtain ⟨c22,hS⟩:=ck hS
 refine F1 rfl (fun w X=>v_idxArrG underlying37 sizeOf36 rfl rfl c22) ?_
 obtain ⟨c23,hS⟩:=ck hS
 refine F1 rfl (fun w X=>v_idxArrG underlying36 Z26 rfl rfl c23) ?_
 refine fE [3,8,9,10,32,36] O6 H fun a w X H h=>?_
 obtain ⟨zp0_24,ezp0_24,hS⟩:=bv hS
 refine z_storeEl (enc:=vL) (xs:=s5.2) (v:=z12) (Int.toNat (64*z20+z21)) h H 0 rfl rfl rfl Z26 (fun _=>rfl) rfl (by omega) (by dsimp only;omega) (hl':=O2) rfl fun w H=>?_
 rw [←ezp0_24] at H
 have lp0:zp0_24.length=128:=by rw [ezp0_24,List.length_set];exact lp0
 have H:HZ w0 _ _ O2 _:=H
 refine c_lnil<|c_lregion<|sI h hS rfl (v_addw rfl rfl) fun z25 e25 hS a h=>cps 1 h rfl fun a h=>c_lnil ?_
 exact exL (ex2 ⟨lpN en5 hS,h.to,(H.keepN 1 rfl),rp0,lp0⟩)
 refine c_skip<|c_lregion<|sI h hS rfl (v_addw rfl rfl) fun z26 e26 hS a h=>cps 1 h rfl fun a h=>c_lnil ?_
 exact exL (ex2 ⟨lpN en5 hS,h.to,(H.keepN 1 rfl),rp0,lp0⟩)
 exact c_exit (ex2 ⟨hS,h.to,H,lp0⟩)
theorem eval_Area_ok {x0:List V} {x1:Nd} {res:C × C × Bool} {w0:World} (hS:eval_Area x0 x1=some res) {Z:FZ} (hZ:Z.inn w0) {xv1:Value} (rp1:RdN Z xv1 nodeEnc x1.l) {pb0:Nat} (hp0:Z pb0=some (Cel ((x0:List V).flatMap vL) 39)) (lp0:x0.length=128):Calls Tryz.prog 52 [.iface 35 (pt pb0),(nA x1 xv1)].toArray w0 (Ret fun v w=>v=.tuple #[(cA res.1),(cA res.2.1),.bool res.2.2]∧Ext w0 w):=by
 refine enS hZ func52 [0,1] O2 fun Q a Zi eZi H h hr=>?_
 try rw [←eZi] at hr
 clear eZi
 unfold eval_Area at hS
 refine rg fun K k=>z_box h H rfl O17 rfl rfl fun a p1 w X H h=>?_
 have H:HZ w0 _ _ [_] _:=H
 refine zA h H V28 O3 (fun x=>[_,x]) fun a p2 w X H h=>?_
 refine zA h H V28 O3 (fun x=>[_,_,x]) fun a p3 w X H h=>?_
 refine cps 1 h rfl fun a h=>cz k ?_
 obtain ⟨J5,eJ5,hS⟩:=bv hS
 refine sqJ (fun a w=>∃ (Z:FZ) (s5:Int × Int × Int × Int × (List UInt8) × Int × Int × Int × Bool × Bool × Int × Int × Int × Bool × Bool × (List UInt8) × (List (Nd))) (v0_16_6:Value),J5 s5=some res∧Fr 45 [(3,(pt p1)),(4,(pt p2)),(5,(pt p3))] a∧HZ w0 Zi Z [.blk p1 (Cel [.int .i64 s5.1,.int .i64 s5.2.1,.int .i64 s5.2.2.1,.int .i64 s5.2.2.2.1,S s5.2.2.2.2.1,.int .i64 s5.2.2.2.2.2.1,.int .i64 s5.2.2.2.2.2.2.1,.int .i64 s5.2.2.2.2.2.2.2.1,.bool s5.2.2.2.2.2.2.2.2.1,.bool s5.2.2.2.2.2.2.2.2.2.1,.int .i64 s5.2.2.2.2.2.2.2.2.2.2.1,.int .i64 s5.2.2.2.2.2.2.2.2.2.2.2.1,.int .i64 s5.2.2.2.2.2.2.2.2.2.2.2.2.1,.bool s5.2.2.2.2.2.2.2.2.2.2.2.2.2.1,.bool s5.2.2.2.2.2.2.2.2.2.2.2.2.2.2.1,S s5.2.2.2.2.2.2.2.2.2.2.2.2.2.2.2.1,v0_16_6] 33),.blk p2 (Cel [.int .i64 0,.int .i64 0,.int .i64 0] 28),.blk p3 (Cel [.int .i64 0,.int .i64 0,.int .i64 0] 28)] w∧RdN Z v0_16_6 nodeEnc s5.2.2.2.2.2.2.2.2.2.2.2.2.2.2.2.2∧Z pb0=some (Cel ((x0:List V).flatMap vL) 39)) ?_ ?_
 rintro a w ⟨Z,s5,v0_16_6,hS,h,H,r0_16_6,hp0⟩
 subst eJ5
 refine sq<|rg fun K k=>s1 h rfl (v_fieldAddr rfl U33 rfl Z3 rfl rfl) fun a h=>s1 h rfl (l1 H 0 A3) fun a h=>cz k<|lb<|rg fun K k=>sB h hS rfl (v_eq rfl rfl) fun z9 e9 hS a h=>cps 1 h rfl fun a h=>cz k<|cI h hS rfl (fun ec10 hS=>?_) fun ec10 hS=>?_
 refine rg fun K k=>s1 h rfl (v_fieldAddr rfl U33 rfl Z30 rfl rfl) fun a h=>s1 h rfl (v_fieldAddr rfl U30 rfl Z28 rfl rfl) fun a h=>s1 h rfl (lA H 0 A28 Z28 O3) fun a h=>s1 h rfl (v_fieldAddr rfl U33 rfl Z30 rfl rfl) fun a h=>s1 h rfl (v_fieldAddr rfl U30 rfl Z28 rfl rfl) fun a h=>s1 h rfl (lA H 0 A28 Z28 O3) fun a h=>sC h H hS rfl (fun y11 f11=>dC call77 (addr_Order_ok f11 :)) fun y11 hS w X H a h=>?_
 refine cps 3 h rfl fun a h=>zS h H 1 Z28 O3 O3 O3 fun w H=>?_
 refine zS h H 2 Z28 O3 O3 O3 fun w H=>?_
 refine cps 1 h rfl fun a h=>cN k h [4,5,6] O3 fun h=>?_
 cases hS
 refine r3 hr h rfl (rvA H 1 A28 Z28 O3) (rvA H 2 A28 Z28 O3) rfl ⟨rfl,H.out⟩
 refine rg fun K k=>sB h hS rfl (v_eq rfl rfl) fun z12 e12 hS a h=>cps 1 h rfl fun a h=>cN k h [3,4,5,35] O4 fun h=>?_
 refine cI h hS rfl (fun ec13 hS=>?_) fun ec13 hS=>?_
 refine lt [1,2] h H ?_
 refine L1 rfl (fun w X=>v_fieldAddr rfl U33 rfl Z30 rfl rfl) ?_
 refine L1 rfl (fun w X=>v_fieldAddr rfl U30 rfl Z28 rfl rfl) ?_
 refine L1 rfl (fun w X=>have H:=X;lA H 0 A28 Z28 O3) ?_
 refine L1 rfl (fun w X=>v_fieldAddr rfl U33 rfl Z30 rfl rfl) ?_
 refine L1 rfl (fun w X=>v_fieldAddr rfl U30 rfl Z28 rfl rfl) ?_
 refine L1 rfl (fun w X=>have H:=X;lA H 0 A28 Z28 O3) ?_
 refine LZ 1 Z28 O3 O3 O3 ?_
 refine LZ 2 Z28 O3 O3 O3 ?_
 refine lcps 1 rfl ?_
 refine lE [4,5,6] O3 fun a w H h=>?_
 have H:HZ w0 _ _ O3 _:=H
 cases hS
 refine r3 hr h rfl (rvA H 1 A28 Z28 O3) (rvA H 2 A28 Z28 O3) rfl ⟨rfl,H.out⟩
 refine c_skip<|rg fun K k=>s1 h rfl (v_build bld28 [] O3 rfl rfl) fun a h=>s1 h rfl (v_build bld28 [] O3 rfl rfl) fun a h=>zS h H 1 Z28 O3 O3 O3 fun w H=>?_
 refine zS h H 2 Z28 O3 O3 O3 fun w H=>?_
 refine cps 1 h rfl fun a h=>cN k h [4,5,6] O3 fun h=>?_
 cases hS
 refine r3 hr h rfl (rvA H 1 A28 Z28 O3) (rvA H 2 A28 Z28 O3) rfl ⟨rfl,H.out⟩
 refine rg fun K k=>s1 h rfl (v_fieldAddr rfl U33 rfl Z3 rfl rfl) fun a h=>s1 h rfl (l1 H 0 A3) fun a h=>sB h hS rfl (v_eq rfl rfl) fun z14 e14 hS a h=>cN k h [0,3,4,5,11] O5 fun h=>?_
 refine cI h hS rfl (fun ec15 hS=>?_) fun ec15 hS=>?_
 refine rg fun K k=>cps 1 h rfl fun a h=>s1 h rfl (v_fieldAddr rfl U33 rfl Z9 rfl rfl) fun a h=>s1 h rfl (l1 H 0 A9) fun a h=>?_
 obtain ⟨y16,f16,hS⟩:=bo hS
 refine st2 h rfl rfl rfl (d_invoke [_] ifm_Name rfl rfl (reckonerref13_Place_Name_ok f16 H.zin hp0 lp0)) ?_
 rintro v_ w ⟨v16_17_1,rfl,r16_17_1,X⟩ a h
 obtain ⟨Z,hsub,hadd,H⟩:=H.adopt' X
 have rp1:=rp1.sub hsub
 have hp0:=hsub _ _ hp0
 have r16_17_1:=r16_17_1.sub hadd
 refine cps 3 h rfl fun a h=>zA h H V33 O17 (fun x=>[_,_,_,x]) fun a p18 w X H h=>?_
 refine z_store h H 3 rfl rfl rfl Z33 O17 rfl rfl (by obtain ⟨_,_,_,e_⟩:=(r16_17_1).form;subst e_;rfl) (by simp) O17 rfl (hl':=O4) rfl fun w H=>?_
 refine cps 1 h rfl fun a h=>cN k h [3,4,5,7,8] O5 fun h=>?_
 refine rg fun K k=>cps 1 h rfl fun a h=>cz k<|cI h hS rfl (fun ec19 hS=>?_) fun ec19 hS=>?_
 refine c_lregion<|s1 h rfl (lA H 3 A33 Z33 O17) fun a h=>z_store h H 0 rfl rfl rfl Z33 O17 rfl rfl (by obtain ⟨_,_,_,e_⟩:=(r16_17_1).form;subst e_;rfl) (by simp) O17 rfl (hl':=O4) rfl fun w H=>?_
 refine c_lnil ?_
 exact ex3 ⟨hS,h.to,(H.keepN 3 rfl),r16_17_1,hp0⟩
 exact c_skip (ex3 ⟨hS,h.to,(H.keepN 3 rfl),rp1,hp0⟩)
 exact c_skip (ex3 ⟨hS,h.to,H,rp1,hp0⟩)
theorem eval_run_made_ok {x0:Rn} {x1:V} {res:Gt} {w0:World} (hS:eval_run_made x0 x1=some res) {Z:FZ} (hZ:Z.inn w0) {rb0 pb0 mb0:Nat} (hr0:Z rb0=some (Cel [.iface 35 (pt pb0),.int .i64 x0.c.s,.int .i64 x0.c.c,.int .i64 x0.c.r,.map (some mb0)] 107)) (hp0:Z pb0=some (Cel ((x0.p:List V).flatMap vL) 39)) (lp0:x0.p.length=128):Calls Tryz.prog 85 [(pt rb0),(vA x1)].toArray w0 (Ret fun v w=>v=.agg #[.int .i64 res.v.k,.int .i64 res.v.n,S res.v.s,.int .i64 res.c.s,.int .i64 res.c.c,.int .i64 res.c.r]∧Ext w0 w):=by
 refine enS hZ func85 [0,1] O2 fun Q a Zi eZi H h hr=>?_
 try rw [←eZi] at hr
 clear eZi
 unfold eval_run_made at hS
 refine rg fun K k=>z_box h H rfl O3 rfl rfl fun a p1 w X H h=>?_
 have H:HZ w0 _ _ [_] _:=H
 refine zA h H V109 O6 (fun x=>[_,x]) fun a p2 w X H h=>?_
 refine cz k<|flT 6 h fun K k=>?_
 refine F1 rfl (fun w X=>have H:=H.ext X;lA H 0 A26 Z26 O3) ?_
 refine fcps 1 rfl ?_
 refine F1 rfl (fun w X=>v_nilCheck rfl) ?_
 refine F1 rfl (fun w X=>v_fieldAddr rfl underlying107 rfl Z28 rfl rfl) ?_
 refine F1 rfl (fun w X=>have H:=H.ext X;v_loadA O3 rfl A28 Z28 (H.zin _ _ hr0) rfl rfl) ?_
 refine F1 rfl (fun w X=>v_build bld109 O2 O6 rfl rfl) ?_
 refine fE [4,10] O2 H fun a w X H h=>?_
 refine zS h H 1 Z109 O6 O6 O2 fun w H=>?_
 refine cz k ?_
 cases hS
 refine r1 hr h rfl (rvA H 1 A109 Z109 O6) ⟨rfl,H.out⟩
theorem eval_run_cell_ok {x0:Rn} {x1:C} {m0:List (C × Bool)} {res:(Gt) × List (C × Bool)} {w0:World} (hS:eval_run_cell x0 x1 m0=some res) {Z:FZ} (hZ:Z.inn w0) {rb0 pb0 mb0:Nat} (hr0:Z rb0=some (Cel [.iface 35 (pt pb0),.int .i64 x0.c.s,.int .i64 x0.c.c,.int .i64 x0.c.r,.map (some mb0)] 107)) (hp0:Z pb0=some (Cel ((x0.p:List V).flatMap vL) 39)) (lp0:x0.p.length=128) (hm0:w0.heap[mb0]?=some (MObj cV Value.bool m0)) (om0:Z mb0=none) {B0:Bs} (eB:B0=⟨w0,[mb0]⟩) {Zi:FZ} (eZ:Zi=Z):Calls Tryz.prog 86 [(pt rb0),(cA x1)].toArray w0 (Ret fun v w=>v=.agg #[.int .i64 res.1.v.k,.int .i64 res.1.v.n,S res.1.v.s,.int .i64 res.1.c.s,.int .i64 res.1.c.c,.int .i64 res.1.c.r]∧w.heap[mb0]?=some (MObj cV Value.bool res.2)∧ExtB B0 w):=by
 have H:HZ B0 Zi Z [.blk mb0 (MObj cV Value.bool m0)] w0:=by rw [eB,eZ];exact HZ.startLM hZ hm0 om0
 refine enG func86 [0,1] O2 fun Q a h hr hn=>?_
 clear eB eZ
 have H:HZ B0 _ _ [_] _:=H
 unfold eval_run_cell at hS
 refine rg fun K k=>z_box h H rfl O3 rfl rfl fun a p1 w X H h=>?_
 have H:HZ B0 _ _ O2 _:=H
 refine zA h H V109 O6 (fun x=>[_,_,x]) fun a p2 w X H h=>?_
 refine cz k<|flT 5 h fun K k=>?_
 refine fcps 1 rfl ?_
 refine F1 rfl (fun w X=>v_nilCheck rfl) ?_
 refine F1 rfl (fun w X=>v_fieldAddr rfl underlying107 rfl sizeOf105 rfl rfl) ?_
 refine F1 rfl (fun w X=>have H:=H.ext X;v_load1 rfl isAgg105 (H.zin _ _ hr0) rfl) ?_
 refine F1 rfl (fun w X=>have H:=H.ext X;lA H 1 A28 Z28 O3) ?_
 refine fE [0,3,4,10,11] O5 H fun a w X H h=>?_
 obtain ⟨zm0_3,ezm0_3,hS⟩:=bv hS
 refine z_mapUpdate (ev':=Value.bool) mk28 h H 0 rfl underlying105 rfl (k:=x1) rfl (v:=true) rfl (hl':=O3) rfl fun w H=>?_
 rw [←ezm0_3] at H
 have H:HZ B0 _ _ O3 _:=H
 refine cz k<|flU 11 [8] h ?_
 refine fcps 1 rfl ?_
 refine F1 rfl (fun w X=>v_nilCheck rfl) ?_
 refine F1 rfl (fun w X=>v_fieldAddr rfl underlying107 rfl sizeOf96 rfl rfl) ?_
 refine F1 rfl (fun w X=>have H:=H.ext X;v_load1 rfl isAgg96 (H.zin _ _ hr0) rfl) ?_
 refine F1 rfl (fun w X=>have H:=H.ext X;lA H 1 A28 Z28 O3) ?_
 obtain ⟨y4,f4,hS⟩:=bo hS
 refine f2 (V:=.tuple #[(vA y4.1),(cA y4.2)]) [16,17] rfl rfl rfl rfl (fun w X=>have Hs:=ZB.of H.zin X;have H:=H.ext X;d_invoke [_] ifm_Value rfl rfl (reckonerref13_Place_Value_ok f4 (ZB.inn H.zin) (Hs _ _ hp0) lp0)) ?_
 refine fcps 3 rfl ?_
 refine f_alloc V26 O3 rfl rfl ?_
 refine f_alloc V28 O3 rfl rfl ?_
 refine fn_ ?_
 intro a w X hR hA
 obtain ⟨_,⟨p5,rfl,hb5⟩,_,⟨p6,rfl,hb6⟩,h⟩:=hR.out [4,5,6,19,20]
 have h:Fr 24 [(20,_),(19,_),(6,_),(5,_),(4,_)] a:=h
 have lo5:=hA.lo' h (s:=5) rfl rfl
 have lo6:=hA.lo' h (s:=6) rfl rfl
 have ne_:=hA.ne' h (s:=5) (t:=6) rfl rfl rfl rfl rfl
 have H:=H.pushF2 X hb5 lo5 hb6 lo6 ne_
 have H:HZ B0 _ _ O5 _:=H
 refine tS h H 3 Z26 O3 O3 O5 fun w H=>?_
 refine tS h H 4 Z28 O3 O3 O5 fun w H=>?_
 refine tE ?_
 refine rg fun K k=>s1 h rfl (lA H 3 A26 Z26 O3) fun a h=>s1 h rfl (lA H 4 A28 Z28 O3) fun a h=>s1 h rfl (v_build bld109 O2 O6 rfl rfl) fun a h=>zS h H 2 Z109 O6 O6 O5 fun w H=>?_
 refine cN k h [4] [_] fun h=>?_
 cases hS
 refine r1 hr h rfl (rvA H 2 A109 Z109 O6) ⟨rfl,H.hp.get 0 rfl,H.outB⟩
end Go.Proofs.YtcecjdnkcbfhlaaGreatDoor
