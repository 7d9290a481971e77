/- Joined texts. -/
import Derived.Test.YtcecjdnkcbfhlaaGreatDoorEM0
import Derived.Test.YtcecjdnkcbfhlaaGreatDoorEU0
import Derived.Test.YtcecjdnkcbfhlaaGreatDoorEWkCl
set_option linter.unusedSimpArgs false
set_option linter.unusedVariables false
set_option linter.unusedSectionVars false
namespace Go.Proofs.YtcecjdnkcbfhlaaGreatDoor
open Go.Stp Go.RowKit Go.ValP Go.Sp _root_.Go.Proofs.Tryz
set_option maxRecDepth 100000
set_option maxHeartbeats 2000000
theorem eval_run_truth_ok {rec:Rn→Nd→(List (C × Bool))→Option ((Gt) × List (C × Bool))} (hrec:∀ {x0:Rn} {x1:Nd} {m0:List (C × Bool)} {res:(Gt) × List (C × Bool)} {w0:World} (hS:rec x0 x1 m0=some res) {Z:FZ} (hZ:Z.inn w0) {xv1:Value} (rp1:RdN Z xv1 nodeEnc x1.l) {rb0 pb0 mb0:Nat} (hr0:Z rb0=some (Cel [.iface 35 (pt pb0),.int .i64 x0.c.s,.int .i64 x0.c.c,.int .i64 x0.c.r,.map (some mb0)] 107)) (hp0:Z pb0=some (Cel ((x0.p:List V).flatMap vL) 39)) (lp0:x0.p.length=128) (hm0:w0.heap[mb0]?=some (MObj cV Value.bool m0)) (om0:Z mb0=none) {B0:Bs} (eB:B0=⟨w0,[mb0]⟩) {Zi:FZ} (eZ:Zi=Z) (hG:GW w0),Calls Tryz.prog 58 [(pt rb0),(nA x1 xv1)].toArray w0 (Ret fun v w=>v=.agg #[.int .i64 res.1.v.k,.int .i64 res.1.v.n,S res.1.v.s,.int .i64 res.1.c.s,.int .i64 res.1.c.c,.int .i64 res.1.c.r]∧w.heap[mb0]?=some (MObj cV Value.bool res.2)∧ExtB B0 w)) {x0:Rn} {x1:Nd} {m0:List (C × Bool)} {res:(Gt) × List (C × Bool)} {w0:World} (hS:eval_run_truth rec x0 x1 m0=some res) {Z:FZ} (hZ:Z.inn w0) {xv1:Value} (rp1:RdN Z xv1 nodeEnc x1.l) {rb0 pb0 mb0:Nat} (hr0:Z rb0=some (Cel [.iface 35 (pt pb0),.int .i64 x0.c.s,.int .i64 x0.c.c,.int .i64 x0.c.r,.map (some mb0)] 107)) (hp0:Z pb0=some (Cel ((x0.p:List V).flatMap vL) 39)) (lp0:x0.p.length=128) (hm0:w0.heap[mb0]?=some (MObj cV Value.bool m0)) (om0:Z mb0=none) {B0:Bs} (eB:B0=⟨w0,[mb0]⟩) {Zi:FZ} (eZ:Zi=Z) (hG:GW w0):Calls Tryz.prog 121 [(pt rb0),(nA x1 xv1)].toArray w0 (Ret fun v w=>v=.agg #[.int .i64 res.1.v.k,.int .i64 res.1.v.n,S res.1.v.s,.int .i64 res.1.c.s,.int .i64 res.1.c.c,.int .i64 res.1.c.r]∧w.heap[mb0]?=some (MObj cV Value.bool res.2)∧ExtB B0 w):=by
 have H:HZ B0 Zi Z [.blk mb0 (MObj cV Value.bool m0)] w0:=by rw [eB,eZ];exact HZ.startLM hZ hm0 om0
 refine enG func121 [0,1] O2 fun Q a h hr hn=>?_
 have hGX:∀ w,ExtB B0 w→GW w:=fun w X=>hG.extM hm0 eB X
 clear eB eZ
 have H:HZ B0 _ _ [_] _:=H
 unfold eval_run_truth at hS
 refine rg fun K k=>z_box h H rfl O17 rfl rfl fun a p1 w X H h=>?_
 have H:HZ B0 _ _ O2 _:=H
 refine zA h H V109 O6 (fun x=>[_,_,x]) fun a p2 w X H h=>?_
 refine cz k<|rg fun K k=>cps 1 h rfl fun a h=>s1 h rfl (lA H 1 A33 Z33 O17) fun a h=>?_
 obtain ⟨y3,f3,hS⟩:=bo hS
 refine st2 h rfl rfl rfl (dC call58 (hrec f3 H.zin rp1 hr0 hp0 lp0 (H.hp.get 0 rfl) (H.offI 0 rfl _ rfl) rfl rfl (hGX _ H.outB))) ?_
 rintro v_ w ⟨rfl,hm_4,X⟩ a h
 obtain ⟨Z,hsub,hadd,H⟩:=H.lentB 0 rfl hm_4 X (hl':=O3) rfl
 have rp1:=rp1.sub hsub
 have hp0:=hsub _ _ hp0
 have hr0:=hsub _ _ hr0
 have H:HZ B0 _ _ O3 _:=H
 refine zA h H V109 O6 (fun x=>[_,_,_,x]) fun a p5 w X H h=>?_
 refine zS h H 3 Z109 O6 O6 O4 fun w H=>?_
 refine cN k h [0,4,5] O3 fun h=>?_
 refine sq<|rg fun K k=>s1 h rfl (v_fieldAddr rfl U109 rfl Z26 rfl rfl) fun a h=>s1 h rfl (v_fieldAddr rfl U26 rfl Z3 rfl rfl) fun a h=>s1 h rfl (l1 H 3 A3) fun a h=>sB h hS rfl (v_eq rfl rfl) fun z7 e7 hS a h=>cz k<|cI h hS rfl (fun ec8 hS=>?_) fun ec8 hS=>?_
 refine rg fun K k=>s1 h rfl (lA H 3 A109 Z109 O6) fun a h=>zS h H 2 Z109 O6 O6 O4 fun w H=>?_
 refine cN k h [4] [_] fun h=>?_
 cases hS
 refine r1 hr h rfl (rvA H 2 A109 Z109 O6) ⟨rfl,H.hp.get 0 rfl,H.outB⟩
 refine c_skip<|cO h [0,4,5] O3 fun h=>?_
 refine rg fun K k=>cps 1 h rfl fun a h=>s1 h rfl (v_fieldAddr rfl U109 rfl Z26 rfl rfl) fun a h=>s1 h rfl (lA H 3 A26 Z26 O3) fun a h=>sC h H hS rfl (fun y9 f9=>dC call31 (value_ToBool_ok f9 :)) fun y9 hS w X H a h=>?_
 obtain ⟨y10,f10,hS⟩:=bo hS
 refine st2v (T:=Ext) (V:=(gA y10)) h rfl rfl rfl (dC call85 (eval_run_made_ok f10 H.zin hr0 hp0 lp0)) fun w X a h=>?_
 have H:=H.ext X
 refine zS h H 2 Z109 O6 O6 O4 fun w H=>?_
 refine cN k h [4] [_] fun h=>?_
 cases hS
 refine r1 hr h rfl (rvA H 2 A109 Z109 O6) ⟨rfl,H.hp.get 0 rfl,H.outB⟩
theorem eval_run_lazy_ok {rec:Rn→Nd→(List (C × Bool))→Option ((Gt) × List (C × Bool))} (hrec:∀ {x0:Rn} {x1:Nd} {m0:List (C × Bool)} {res:(Gt) × List (C × Bool)} {w0:World} (hS:rec x0 x1 m0=some res) {Z:FZ} (hZ:Z.inn w0) {xv1:Value} (rp1:RdN Z xv1 nodeEnc x1.l) {rb0 pb0 mb0:Nat} (hr0:Z rb0=some (Cel [.iface 35 (pt pb0),.int .i64 x0.c.s,.int .i64 x0.c.c,.int .i64 x0.c.r,.map (some mb0)] 107)) (hp0:Z pb0=some (Cel ((x0.p:List V).flatMap vL) 39)) (lp0:x0.p.length=128) (hm0:w0.heap[mb0]?=some (MObj cV Value.bool m0)) (om0:Z mb0=none) {B0:Bs} (eB:B0=⟨w0,[mb0]⟩) {Zi:FZ} (eZ:Zi=Z) (hG:GW w0),Calls Tryz.prog 58 [(pt rb0),(nA x1 xv1)].toArray w0 (Ret fun v w=>v=.agg #[.int .i64 res.1.v.k,.int .i64 res.1.v.n,S res.1.v.s,.int .i64 res.1.c.s,.int .i64 res.1.c.c,.int .i64 res.1.c.r]∧w.heap[mb0]?=some (MObj cV Value.bool res.2)∧ExtB B0 w)) {x0:Rn} {x1:Nd} {m0:List (C × Bool)} {res:(Gt) × List (C × Bool)} {w0:World} (hS:eval_run_lazy rec x0 x1 m0=some res) {Z:FZ} (hZ:Z.inn w0) {xv1:Value} (rp1:RdN Z xv1 nodeEnc x1.l) {rb0 pb0 mb0:Nat} (hr0:Z rb0=some (Cel [.iface 35 (pt pb0),.int .i64 x0.c.s,.int .i64 x0.c.c,.int .i64 x0.c.r,.map (some mb0)] 107)) (hp0:Z pb0=some (Cel ((x0.p:List V).flatMap vL) 39)) (lp0:x0.p.length=128) (hm0:w0.heap[mb0]?=some (MObj cV Value.bool m0)) (om0:Z mb0=none) {B0:Bs} (eB:B0=⟨w0,[mb0]⟩) {Zi:FZ} (eZ:Zi=Z) (hG:GW w0):Calls Tryz.prog 89 [(pt rb0),(nA x1 xv1)].toArray w0 (Ret fun v w=>v=.agg #[.int .i64 res.1.v.k,.int .i64 res.1.v.n,S res.1.v.s,.int .i64 res.1.c.s,.int .i64 res.1.c.c,.int .i64 res.1.c.r]∧w.heap[mb0]?=some (MObj cV Value.bool res.2)∧ExtB B0 w):=by
 have H:HZ B0 Zi Z [.blk mb0 (MObj cV Value.bool m0)] w0:=by rw [eB,eZ];exact HZ.startLM hZ hm0 om0
 refine enG func89 [0,1] O2 fun Q a h hr hn=>?_
 have hGX:∀ w,ExtB B0 w→GW w:=fun w X=>hG.extM hm0 eB X
 clear eB eZ
 have H:HZ B0 _ _ [_] _:=H
 unfold eval_run_lazy at hS
 refine rg fun K k=>z_box h H rfl O17 rfl rfl fun a p1 w X H h=>?_
 have H:HZ B0 _ _ O2 _:=H
 refine zA h H V109 O6 (fun x=>[_,_,x]) fun a p2 w X H h=>?_
 refine cz k ?_
 obtain ⟨J4,eJ4,hS⟩:=bv hS
 refine sqJ (fun a w=>∃ (Z:FZ) (s4:(List (C × Bool)) × Int × Int × (List UInt8) × Int × Int × Int),J4 s4=some res∧Fr 150 [(0,(pt rb0)),(3,(pt p1)),(4,(pt p2))] a∧HZ B0 Zi Z [.blk mb0 (MObj cV Value.bool s4.1),.blk p1 (Cel (nL x1 xv1) 33),.blk p2 (Cel [.int .i64 s4.2.1,.int .i64 s4.2.2.1,S s4.2.2.2.1,.int .i64 s4.2.2.2.2.1,.int .i64 s4.2.2.2.2.2.1,.int .i64 s4.2.2.2.2.2.2] 109)] w∧RdN Z xv1 nodeEnc x1.l∧Z pb0=some (Cel ((x0.p:List V).flatMap vL) 39)∧Z rb0=some (Cel [.iface 35 (pt pb0),.int .i64 x0.c.s,.int .i64 x0.c.c,.int .i64 x0.c.r,.map (some mb0)] 107)) ?_ ?_
 rintro a w ⟨Z,s4,hS,h,H,rp1,hp0,hr0⟩
 subst eJ4
 refine rg fun K k=>cps 1 h rfl fun a h=>s1 h rfl (v_fieldAddr rfl U33 rfl Z31 rfl rfl) fun a h=>s1 h rfl (l1 H 1 A31) fun a h=>?_
 obtain ⟨c5,hS⟩:=ck hS
 obtain ⟨z6,e6,hS⟩:=bv hS
 have q_7:=rp1.gel ⟨_,nodeEnc_dflt⟩ 0
 rw [←e6] at q_7
 obtain ⟨css_7,cl_7,rc_7,hc_7,q_7⟩:=q_7
 obtain ⟨v116_7_1,hcs_7,r116_7_1⟩:=node_op q_7
 refine st_idxC h U31 Z33 rfl rfl (rc_7.at H.zin) c5.1 (hc_7 c5) hcs_7 rfl fun a v116 A116 h=>?_
 refine s1 h rfl (v_loadAtA O17 rfl A116 A33 Z33 rfl rfl) fun a h=>?_
 obtain ⟨y8,f8,hS⟩:=bo hS
 refine st2 h rfl rfl rfl (dC call121 (eval_run_truth_ok hrec f8 H.zin r116_7_1 hr0 hp0 lp0 (H.hp.get 0 rfl) (H.offI 0 rfl _ rfl) rfl rfl (hGX _ H.outB))) ?_
 rintro v_ w ⟨rfl,hm_9,X⟩ a h
 obtain ⟨Z,hsub,hadd,H⟩:=H.lentB 0 rfl hm_9 X (hl':=O3) rfl
 have r116_7_1:=r116_7_1.sub hsub
 have rp1:=rp1.sub hsub
 have hp0:=hsub _ _ hp0
 have hr0:=hsub _ _ hr0
 have H:HZ B0 _ _ O3 _:=H
 refine zA h H V109 O6 (fun x=>[_,_,_,x]) fun a p10 w X H h=>?_
 refine zS h H 3 Z109 O6 O6 O4 fun w H=>?_
 refine cN k h [0,3,4,12] O4 fun h=>?_
 refine sb ?_
 refine rg fun K k=>s1 h rfl (v_fieldAddr rfl U109 rfl Z26 rfl rfl) fun a h=>s1 h rfl (v_fieldAddr rfl U26 rfl Z3 rfl rfl) fun a h=>s1 h rfl (l1 H 3 A3) fun a h=>sB h hS rfl (v_eq rfl rfl) fun z12 e12 hS a h=>cps 1 h rfl fun a h=>cN k h [0,3,4,12,119] O5 fun h=>?_
 refine cI h hS rfl (fun ec13 hS=>?_) fun ec13 hS=>?_
 refine rg fun K k=>s1 h rfl (lA H 3 A109 Z109 O6) fun a h=>zS h H 2 Z109 O6 O6 O4 fun w H=>?_
 refine cN k h [4] [_] fun h=>?_
 cases hS
 refine r1 hr h rfl (rvA H 2 A109 Z109 O6) ⟨rfl,H.hp.get 0 rfl,H.outB⟩
 refine rg fun K k=>s1 h rfl (v_fieldAddr rfl U109 rfl Z26 rfl rfl) fun a h=>s1 h rfl (v_fieldAddr rfl U26 rfl Z2 rfl rfl) fun a h=>s1 h rfl (l1 H 3 A2) fun a h=>sB h hS rfl (v_eq rfl rfl) fun z14 e14 hS a h=>cps 1 h rfl fun a h=>cN k h [0,3,4,125] O4 fun h=>?_
 refine cI h hS rfl (fun ec15 hS=>?_) fun ec15 hS=>?_
 refine rg fun K k=>cps 1 h rfl fun a h=>s1 h rfl (v_fieldAddr rfl U33 rfl Z31 rfl rfl) fun a h=>s1 h rfl (l1 H 1 A31) fun a h=>?_
 obtain ⟨c16,hS⟩:=ck hS
 obtain ⟨z17,e17,hS⟩:=bv hS
 have q_18:=rp1.gel ⟨_,nodeEnc_dflt⟩ 1
 rw [←e17] at q_18
 obtain ⟨css_18,cl_18,rc_18,hc_18,q_18⟩:=q_18
 obtain ⟨v133_18_1,hcs_18,r133_18_1⟩:=node_op q_18
 refine st_idxC h U31 Z33 rfl rfl (rc_18.at H.zin) c16.1 (hc_18 c16) hcs_18 rfl fun a v133 A133 h=>?_
 refine s1 h rfl (v_loadAtA O17 rfl A133 A33 Z33 rfl rfl) fun a h=>?_
 obtain ⟨y19,f19,hS⟩:=bo hS
 refine st2 h rfl rfl rfl (dC call58 (hrec f19 H.zin r133_18_1 hr0 hp0 lp0 (H.hp.get 0 rfl) (H.offI 0 rfl _ rfl) rfl rfl (hGX _ H.outB))) ?_
 rintro v_ w ⟨rfl,hm_20,X⟩ a h
 obtain ⟨Z,hsub,hadd,H⟩:=H.lentB 0 rfl hm_20 X (hl':=O4) rfl
 have r133_18_1:=r133_18_1.sub hsub
 have rp1:=rp1.sub hsub
 have hp0:=hsub _ _ hp0
 have hr0:=hsub _ _ hr0
 have H:HZ B0 _ _ O4 _:=H
 refine zS h H 2 Z109 O6 O6 O4 fun w H=>?_
 refine cN k h [4] [_] fun h=>?_
 cases hS
 refine r1 hr h rfl (rvA H 2 A109 Z109 O6) ⟨rfl,H.hp.get 0 rfl,H.outB⟩
 refine rg fun K k=>s1 h rfl (v_fieldAddr rfl U33 rfl Z31 rfl rfl) fun a h=>s1 h rfl (l1 H 1 A31) fun a h=>s1 h rfl (v_lenN U31 rfl rp1 H.zin) fun a h=>sB h hS rfl (v_eq rfl rfl) fun z21 e21 hS a h=>cps 1 h rfl fun a h=>cN k h [0,3,4,136] O4 fun h=>?_
 refine cI h hS rfl (fun ec22 hS=>?_) fun ec22 hS=>?_
 refine rg fun K k=>cps 1 h rfl fun a h=>s1 h rfl (v_fieldAddr rfl U33 rfl Z31 rfl rfl) fun a h=>s1 h rfl (l1 H 1 A31) fun a h=>?_
 obtain ⟨c23,hS⟩:=ck hS
 obtain ⟨z24,e24,hS⟩:=bv hS
 have q_25:=rp1.gel ⟨_,nodeEnc_dflt⟩ 2
 rw [←e24] at q_25
 obtain ⟨css_25,cl_25,rc_25,hc_25,q_25⟩:=q_25
 obtain ⟨v144_25_1,hcs_25,r144_25_1⟩:=node_op q_25
 refine st_idxC h U31 Z33 rfl rfl (rc_25.at H.zin) c23.1 (hc_25 c23) hcs_25 rfl fun a v144 A144 h=>?_
 refine s1 h rfl (v_loadAtA O17 rfl A144 A33 Z33 rfl rfl) fun a h=>?_
 obtain ⟨y26,f26,hS⟩:=bo hS
 refine st2 h rfl rfl rfl (dC call58 (hrec f26 H.zin r144_25_1 hr0 hp0 lp0 (H.hp.get 0 rfl) (H.offI 0 rfl _ rfl) rfl rfl (hGX _ H.outB))) ?_
 rintro v_ w ⟨rfl,hm_27,X⟩ a h
 obtain ⟨Z,hsub,hadd,H⟩:=H.lentB 0 rfl hm_27 X (hl':=O4) rfl
 have r144_25_1:=r144_25_1.sub hsub
 have rp1:=rp1.sub hsub
 have hp0:=hsub _ _ hp0
 have hr0:=hsub _ _ hr0
 have H:HZ B0 _ _ O4 _:=H
 refine zS h H 2 Z109 O6 O6 O4 fun w H=>?_
 refine cN k h [4] [_] fun h=>?_
 cases hS
 refine r1 hr h rfl (rvA H 2 A109 Z109 O6) ⟨rfl,H.hp.get 0 rfl,H.outB⟩
 refine c_skip<|rg fun K k=>cps 1 h rfl fun a h=>sC h H hS rfl (fun y28 f28=>dC call24 (value_Bool_ok f28 :)) fun y28 hS w X H a h=>?_
 obtain ⟨y29,f29,hS⟩:=bo hS
 refine st2v (T:=Ext) (V:=(gA y29)) h rfl rfl rfl (dC call85 (eval_run_made_ok f29 H.zin hr0 hp0 lp0)) fun w X a h=>?_
 have H:=H.ext X
 refine zS h H 2 Z109 O6 O6 O4 fun w H=>?_
 refine cN k h [4] [_] fun h=>?_
 cases hS
 refine r1 hr h rfl (rvA H 2 A109 Z109 O6) ⟨rfl,H.hp.get 0 rfl,H.outB⟩
 refine rg fun K k=>s1 h rfl (v_fieldAddr rfl U33 rfl Z3 rfl rfl) fun a h=>s1 h rfl (l1 H 1 A3) fun a h=>cz k<|lb<|rg fun K k=>sB h hS rfl (v_eq rfl rfl) fun z31 e31 hS a h=>cps 1 h rfl fun a h=>cz k<|cI h hS rfl (fun ec32 hS=>?_) fun ec32 hS=>?_
 refine rg fun K k=>cps 1 h rfl fun a h=>s1 h rfl (v_fieldAddr rfl U33 rfl Z31 rfl rfl) fun a h=>s1 h rfl (l1 H 1 A31) fun a h=>?_
 obtain ⟨c33,hS⟩:=ck hS
 obtain ⟨z34,e34,hS⟩:=bv hS
 have q_35:=rp1.gel ⟨_,nodeEnc_dflt⟩ 0
 rw [←e34] at q_35
 obtain ⟨css_35,cl_35,rc_35,hc_35,q_35⟩:=q_35
 obtain ⟨v20_35_1,hcs_35,r20_35_1⟩:=node_op q_35
 refine st_idxC h U31 Z33 rfl rfl (rc_35.at H.zin) c33.1 (hc_35 c33) hcs_35 rfl fun a v20 A20 h=>?_
 refine s1 h rfl (v_loadAtA O17 rfl A20 A33 Z33 rfl rfl) fun a h=>?_
 obtain ⟨y36,f36,hS⟩:=bo hS
 refine st2 h rfl rfl rfl (dC call58 (hrec f36 H.zin r20_35_1 hr0 hp0 lp0 (H.hp.get 0 rfl) (H.offI 0 rfl _ rfl) rfl rfl (hGX _ H.outB))) ?_
 rintro v_ w ⟨rfl,hm_37,X⟩ a h
 obtain ⟨Z,hsub,hadd,H⟩:=H.lentB 0 rfl hm_37 X (hl':=O3) rfl
 have r20_35_1:=r20_35_1.sub hsub
 have rp1:=rp1.sub hsub
 have hp0:=hsub _ _ hp0
 have hr0:=hsub _ _ hr0
 have H:HZ B0 _ _ O3 _:=H
 refine zA h H V109 O6 (fun x=>[_,_,_,x]) fun a p38 w X H h=>?_
 refine zS h H 3 Z109 O6 O6 O4 fun w H=>?_
 refine cN k h [0,3,4,5] O4 fun h=>?_
 refine sq<|rg fun K k=>s1 h rfl (v_fieldAddr rfl U109 rfl Z26 rfl rfl) fun a h=>s1 h rfl (v_fieldAddr rfl U26 rfl Z3 rfl rfl) fun a h=>s1 h rfl (l1 H 3 A3) fun a h=>sB h hS rfl (v_ne rfl rfl) fun z40 e40 hS a h=>cz k<|cI h hS rfl (fun ec41 hS=>?_) fun ec41 hS=>?_
 refine rg fun K k=>s1 h rfl (lA H 3 A109 Z109 O6) fun a h=>zS h H 2 Z109 O6 O6 O4 fun w H=>?_
 refine cN k h [4] [_] fun h=>?_
 cases hS
 refine r1 hr h rfl (rvA H 2 A109 Z109 O6) ⟨rfl,H.hp.get 0 rfl,H.outB⟩
 refine c_skip<|cO h [0,3,4] O3 fun h=>?_
 refine rg fun K k=>cps 1 h rfl fun a h=>s1 h rfl (v_fieldAddr rfl U33 rfl Z31 rfl rfl) fun a h=>s1 h rfl (l1 H 1 A31) fun a h=>?_
 obtain ⟨c42,hS⟩:=ck hS
 obtain ⟨z43,e43,hS⟩:=bv hS
 have q_44:=rp1.gel ⟨_,nodeEnc_dflt⟩ 1
 rw [←e43] at q_44
 obtain ⟨css_44,cl_44,rc_44,hc_44,q_44⟩:=q_44
 obtain ⟨v31_44_1,hcs_44,r31_44_1⟩:=node_op q_44
 refine st_idxC h U31 Z33 rfl rfl (rc_44.at H.zin) c42.1 (hc_44 c42) hcs_44 rfl fun a v31 A31 h=>?_
 refine s1 h rfl (v_loadAtA O17 rfl A31 A33 Z33 rfl rfl) fun a h=>?_
 obtain ⟨y45,f45,hS⟩:=bo hS
 refine st2 h rfl rfl rfl (dC call58 (hrec f45 H.zin r31_44_1 hr0 hp0 lp0 (H.hp.get 0 rfl) (H.offI 0 rfl _ rfl) rfl rfl (hGX _ H.outB))) ?_
 rintro v_ w ⟨rfl,hm_46,X⟩ a h
 obtain ⟨Z,hsub,hadd,H⟩:=H.lentB 0 rfl hm_46 X (hl':=O4) rfl
 have r31_44_1:=r31_44_1.sub hsub
 have rp1:=rp1.sub hsub
 have hp0:=hsub _ _ hp0
 have hr0:=hsub _ _ hr0
 have H:HZ B0 _ _ O4 _:=H
 refine zS h H 2 Z109 O6 O6 O4 fun w H=>?_
 refine cN k h [4] [_] fun h=>?_
 cases hS
 refine r1 hr h rfl (rvA H 2 A109 Z109 O6) ⟨rfl,H.hp.get 0 rfl,H.outB⟩
 obtain ⟨J48,eJ48,hS⟩:=bv hS
 refine sqJ (fun a w=>∃ (Z:FZ) (s48:Bool),J48 s48=some res∧Fr 150 [(0,(pt rb0)),(3,(pt p1)),(4,(pt p2)),(14,.int .i64 x1.op),(34,.bool s48)] a∧HZ B0 Zi Z [.blk mb0 (MObj cV Value.bool m0),.blk p1 (Cel (nL x1 xv1) 33),.blk p2 (Cel [.int .i64 0,.int .i64 0,S [],.int .i64 0,.int .i64 0,.int .i64 0] 109)] w∧RdN Z xv1 nodeEnc x1.l∧Z pb0=some (Cel ((x0.p:List V).flatMap vL) 39)∧Z rb0=some (Cel [.iface 35 (pt pb0),.int .i64 x0.c.s,.int .i64 x0.c.c,.int .i64 x0.c.r,.map (some mb0)] 107)) ?_ ?_
 rintro a w ⟨Z,s48,hS,h,H,rp1,hp0,hr0⟩
 subst eJ48
 refine cI h hS rfl (fun ec49 hS=>?_) fun ec49 hS=>?_
 obtain ⟨J51,eJ51,hS⟩:=bv hS
 refine sqJ (fun a w=>∃ (Z:FZ) (s51:(List (C × Bool)) × Int × Int × (List UInt8) × Int × Int × Int),J51 s51=some res∧Fr 150 [(0,(pt rb0)),(3,(pt p1)),(4,(pt p2))] a∧HZ B0 Zi Z [.blk mb0 (MObj cV Value.bool s51.1),.blk p1 (Cel (nL x1 xv1) 33),.blk p2 (Cel [.int .i64 s51.2.1,.int .i64 s51.2.2.1,S s51.2.2.2.1,.int .i64 s51.2.2.2.2.1,.int .i64 s51.2.2.2.2.2.1,.int .i64 s51.2.2.2.2.2.2] 109)] w∧RdN Z xv1 nodeEnc x1.l∧Z pb0=some (Cel ((x0.p:List V).flatMap vL) 39)∧Z rb0=some (Cel [.iface 35 (pt pb0),.int .i64 x0.c.s,.int .i64 x0.c.c,.int .i64 x0.c.r,.map (some mb0)] 107)) ?_ ?_
 rintro a w ⟨Z,s51,hS,h,H,rp1,hp0,hr0⟩
 subst eJ51
 refine rg fun K k=>cps 1 h rfl fun a h=>s1 h rfl (v_fieldAddr rfl U33 rfl Z3 rfl rfl) fun a h=>s1 h rfl (l1 H 1 A3) fun a h=>sB h hS rfl (v_eq rfl rfl) fun z52 e52 hS a h=>sC h H hS rfl (fun y53 f53=>dC call24 (value_Bool_ok f53 :)) fun y53 hS w X H a h=>?_
 obtain ⟨y54,f54,hS⟩:=bo hS
 refine st2v (T:=Ext) (V:=(gA y54)) h rfl rfl rfl (dC call85 (eval_run_made_ok f54 H.zin hr0 hp0 lp0)) fun w X a h=>?_
 have H:=H.ext X
 refine zS h H 2 Z109 O6 O6 O3 fun w H=>?_
 refine cN k h [4] [_] fun h=>?_
 cases hS
 refine r1 hr h rfl (rvA H 2 A109 Z109 O6) ⟨rfl,H.hp.get 0 rfl,H.outB⟩
 refine rg fun K k=>s1 h rfl (v_fieldAddr rfl U33 rfl Z31 rfl rfl) fun a h=>s1 h rfl (l1 H 1 A31) fun a h=>s1 h rfl (v_lenN U31 rfl rp1 H.zin) fun a h=>cps 1 h rfl fun a h=>cz k<|lb ?_
 obtain ⟨B56,eB56,hS⟩:=bv hS
 refine lpJ (fun mu_ a w=>∃ (Z:FZ) (s56:Int × (List (C × Bool)) × Int × Int × (List UInt8) × Int × Int × Int),loopF B56 mu_ s56=some res∧Fr 150 [(0,(pt rb0)),(3,(pt p1)),(4,(pt p2)),(38,xv1),(39,.int .i64 (x1.l.length:Int)),(40,.int .i64 s56.1)] a∧HZ B0 Zi Z [.blk mb0 (MObj cV Value.bool s56.2.1),.blk p1 (Cel (nL x1 xv1) 33),.blk p2 (Cel [.int .i64 s56.2.2.1,.int .i64 s56.2.2.2.1,S s56.2.2.2.2.1,.int .i64 s56.2.2.2.2.2.1,.int .i64 s56.2.2.2.2.2.2.1,.int .i64 s56.2.2.2.2.2.2.2] 109)] w∧RdN Z xv1 nodeEnc x1.l∧Z pb0=some (Cel ((x0.p:List V).flatMap vL) 39)∧Z rb0=some (Cel [.iface 35 (pt pb0),.int .i64 x0.c.s,.int .i64 x0.c.c,.int .i64 x0.c.r,.map (some mb0)] 107)) KK ⟨_,_,hS,h.to,H,rp1,hp0,hr0⟩ ?_
 rintro mu_ a w ⟨Z,s56,hS,h,H,rp1,hp0,hr0⟩
 obtain ⟨mu_,rfl,n56,en56,hS⟩:=lpX eB56 hS
 refine rg fun K k=>sB h hS rfl (v_lt rfl rfl) fun z58 e58 hS a h=>cz k<|sq<|cI h hS rfl (fun ec60 hS=>?_) fun ec60 hS=>?_
 refine c_skip<|sb ?_
 refine rg fun K k=>?_
 obtain ⟨c62,hS⟩:=ck hS
 obtain ⟨z63,e63,hS⟩:=bv hS
 have q_64:=rp1.gel ⟨_,nodeEnc_dflt⟩ s56.1
 rw [←e63] at q_64
 obtain ⟨css_64,cl_64,rc_64,hc_64,q_64⟩:=q_64
 obtain ⟨v42_64_1,hcs_64,r42_64_1⟩:=node_op q_64
 refine st_idxC h U31 Z33 rfl rfl (rc_64.at H.zin) c62.1 (hc_64 c62) hcs_64 rfl fun a v42 A42 h=>?_
 refine s1 h rfl (v_loadAtA O17 rfl A42 A33 Z33 rfl rfl) fun a h=>zA h H V33 O17 (fun x=>[_,_,_,x]) fun a p65 w X H h=>?_
 have A42:=At.ext A42 X
 refine z_store h H 3 rfl rfl rfl Z33 O17 rfl rfl (by obtain ⟨_,_,_,e_⟩:=(r42_64_1).form;subst e_;rfl) (by simp) O17 rfl (hl':=O4) rfl fun w H=>?_
 refine cz k<|rg fun K k=>cps 1 h rfl fun a h=>s1 h rfl (lA H 3 A33 Z33 O17) fun a h=>?_
 obtain ⟨y66,f66,hS⟩:=bo hS
 refine st2 h rfl rfl rfl (dC call121 (eval_run_truth_ok hrec f66 H.zin r42_64_1 hr0 hp0 lp0 (H.hp.get 0 rfl) (H.offI 0 rfl _ rfl) rfl rfl (hGX _ H.outB))) ?_
 rintro v_ w ⟨rfl,hm_67,X⟩ a h
 obtain ⟨Z,hsub,hadd,H⟩:=H.lentB 0 rfl hm_67 X (hl':=O4) rfl
 have r42_64_1:=r42_64_1.sub hsub
 have rp1:=rp1.sub hsub
 have hp0:=hsub _ _ hp0
 have hr0:=hsub _ _ hr0
 have H:HZ B0 _ _ O4 _:=H
 refine zA h H V109 O6 (fun x=>[_,_,_,_,x]) fun a p68 w X H h=>?_
 refine zS h H 4 Z109 O6 O6 O5 fun w H=>?_
 refine cN k h [0,3,4,8,38,39,40] O7 fun h=>?_
 refine rg fun K k=>s1 h rfl (v_fieldAddr rfl U109 rfl Z26 rfl rfl) fun a h=>s1 h rfl (v_fieldAddr rfl U26 rfl Z3 rfl rfl) fun a h=>s1 h rfl (l1 H 4 A3) fun a h=>sB h hS rfl (v_eq rfl rfl) fun z69 e69 hS a h=>cps 1 h rfl fun a h=>st_g h rfl rfl (gF rfl) rfl rfl (fun e0=>v_fieldAddr rfl U109 rfl Z26 rfl rfl) fun a h=>?_
 refine st_g h rfl rfl (gF rfl) rfl rfl (fun e0=>v_fieldAddr (eg e0 rfl) U26 rfl Z2 rfl rfl) fun a h=>?_
 refine st_g h rfl rfl (gF rfl) rfl rfl (fun e0=>v_load1 (eg e0 rfl) A2 (H.hp.get 4 rfl) rfl) fun a h=>?_
 obtain ⟨z70,e70,hS⟩:=bv hS
 refine st_g h rfl rfl (gF rfl) rfl rfl (fun e0=>vB e70 (v_eq (eg e0 rfl) rfl)) fun a h=>?_
 refine st_g h rfl rfl (gF rfl) rfl rfl (fun e0=>v_fieldAddr rfl U33 rfl Z3 rfl rfl) fun a h=>?_
 refine st_g h rfl rfl (gF rfl) rfl rfl (fun e0=>v_load1 (eg e0 rfl) A3 (H.hp.get 1 rfl) rfl) fun a h=>?_
 obtain ⟨z71,e71,hS⟩:=bv hS
 refine st_g h rfl rfl (gF rfl) rfl rfl (fun e0=>vB e71 (v_eq (eg e0 rfl) rfl)) fun a h=>?_
 obtain ⟨z72,e72,hS⟩:=bv hS
 refine st_g h rfl rfl (gF rfl) rfl rfl (fun e0=>vB e72 (v_beq U4 (eg e0 rfl) (eg e0 rfl))) fun a h=>?_
 refine sB h hS rfl (v_or rfl rfl) fun z73 e73 hS a h=>cN k h [0,3,4,8,38,39,40,60] O8 fun h=>?_
 refine cI h hS rfl (fun ec74 hS=>?_) fun ec74 hS=>?_
 refine rg fun K k=>s1 h rfl (lA H 4 A109 Z109 O6) fun a h=>zS h H 2 Z109 O6 O6 O5 fun w H=>?_
 refine cN k h [4] [_] fun h=>?_
 cases hS
 refine r1 hr h rfl (rvA H 2 A109 Z109 O6) ⟨rfl,H.hp.get 0 rfl,H.outB⟩
 refine c_skip<|c_lregion<|sI h hS rfl (v_addw rfl rfl) fun z75 e75 hS a h=>cps 1 h rfl fun a h=>c_lnil ?_
 exact exL (ex2 ⟨lpN en56 hS,h.to,(H.keepN 3 rfl),rp1,hp0,hr0⟩)
 exact c_exit (ex2 ⟨hS,h.to,H,rp1,hp0,hr0⟩)
 refine rg fun K k=>sB h hS rfl (v_eq rfl rfl) fun z76 e76 hS a h=>cps 1 h rfl fun a h=>cz k<|cI h hS rfl (fun ec77 hS=>?_) fun ec77 hS=>?_
 refine rg fun K k=>cps 1 h rfl fun a h=>s1 h rfl (v_fieldAddr rfl U33 rfl Z31 rfl rfl) fun a h=>s1 h rfl (l1 H 1 A31) fun a h=>?_
 obtain ⟨c78,hS⟩:=ck hS
 obtain ⟨z79,e79,hS⟩:=bv hS
 have q_80:=rp1.gel ⟨_,nodeEnc_dflt⟩ 0
 rw [←e79] at q_80
 obtain ⟨css_80,cl_80,rc_80,hc_80,q_80⟩:=q_80
 obtain ⟨v74_80_1,hcs_80,r74_80_1⟩:=node_op q_80
 refine st_idxC h U31 Z33 rfl rfl (rc_80.at H.zin) c78.1 (hc_80 c78) hcs_80 rfl fun a v74 A74 h=>?_
 refine s1 h rfl (v_loadAtA O17 rfl A74 A33 Z33 rfl rfl) fun a h=>?_
 obtain ⟨y81,f81,hS⟩:=bo hS
 refine st2 h rfl rfl rfl (dC call58 (hrec f81 H.zin r74_80_1 hr0 hp0 lp0 (H.hp.get 0 rfl) (H.offI 0 rfl _ rfl) rfl rfl (hGX _ H.outB))) ?_
 rintro v_ w ⟨rfl,hm_82,X⟩ a h
 obtain ⟨Z,hsub,hadd,H⟩:=H.lentB 0 rfl hm_82 X (hl':=O3) rfl
 have r74_80_1:=r74_80_1.sub hsub
 have rp1:=rp1.sub hsub
 have hp0:=hsub _ _ hp0
 have hr0:=hsub _ _ hr0
 have H:HZ B0 _ _ O3 _:=H
 refine zA h H V109 O6 (fun x=>[_,_,_,x]) fun a p83 w X H h=>?_
 refine zS h H 3 Z109 O6 O6 O4 fun w H=>?_
 refine cN k h [0,3,4,9] O4 fun h=>?_
 refine sq<|rg fun K k=>s1 h rfl (v_fieldAddr rfl U109 rfl Z26 rfl rfl) fun a h=>s1 h rfl (v_fieldAddr rfl U26 rfl Z3 rfl rfl) fun a h=>s1 h rfl (l1 H 3 A3) fun a h=>sB h hS rfl (v_eq rfl rfl) fun z85 e85 hS a h=>cz k<|cI h hS rfl (fun ec86 hS=>?_) fun ec86 hS=>?_
 refine rg fun K k=>s1 h rfl (lA H 3 A109 Z109 O6) fun a h=>zS h H 2 Z109 O6 O6 O4 fun w H=>?_
 refine cN k h [4] [_] fun h=>?_
 cases hS
 refine r1 hr h rfl (rvA H 2 A109 Z109 O6) ⟨rfl,H.hp.get 0 rfl,H.outB⟩
 refine c_skip<|cO h [0,3,4,9] O4 fun h=>?_
 refine rg fun K k=>s1 h rfl (v_fieldAddr rfl U109 rfl Z26 rfl rfl) fun a h=>s1 h rfl (lA H 3 A26 Z26 O3) fun a h=>sC h H hS rfl (fun y87 f87=>dC call115 (value_ToNum_ok f87 :)) fun y87 hS w X H a h=>?_
 refine zA h H V26 O3 (fun x=>[_,_,_,_,x]) fun a p88 w X H h=>?_
 refine zS h H 4 Z26 O3 O3 O5 fun w H=>?_
 refine cN k h [0,3,4,10] O4 fun h=>?_
 refine sq<|rg fun K k=>s1 h rfl (v_fieldAddr rfl U26 rfl Z3 rfl rfl) fun a h=>s1 h rfl (l1 H 4 A3) fun a h=>sB h hS rfl (v_eq rfl rfl) fun z90 e90 hS a h=>cz k<|cI h hS rfl (fun ec91 hS=>?_) fun ec91 hS=>?_
 refine rg fun K k=>cps 1 h rfl fun a h=>s1 h rfl (lA H 4 A26 Z26 O3) fun a h=>?_
 obtain ⟨y92,f92,hS⟩:=bo hS
 refine st2v (T:=Ext) (V:=(gA y92)) h rfl rfl rfl (dC call85 (eval_run_made_ok f92 H.zin hr0 hp0 lp0)) fun w X a h=>?_
 have H:=H.ext X
 refine zS h H 2 Z109 O6 O6 O5 fun w H=>?_
 refine cN k h [4] [_] fun h=>?_
 cases hS
 refine r1 hr h rfl (rvA H 2 A109 Z109 O6) ⟨rfl,H.hp.get 0 rfl,H.outB⟩
 refine c_skip<|sq<|rg fun K k=>s1 h rfl (v_fieldAddr rfl U26 rfl Z2 rfl rfl) fun a h=>s1 h rfl (l1 H 4 A2) fun a h=>sI h hS rfl (v_quow rfl rfl (by decide)) fun z94 e94 hS a h=>cps 1 h rfl fun a h=>cN k h [0,3,4,11] O4 fun h=>?_
 refine rg fun K k=>cps 1 h rfl fun a h=>sB h hS rfl (v_ge rfl rfl) fun z95 e95 hS a h=>cps 1 h rfl fun a h=>st_g h rfl rfl (gT rfl) rfl rfl (fun e0=>v_move rfl) fun a h=>?_
 refine st_g h rfl rfl (gT rfl) rfl rfl (fun e0=>v_fieldAddr rfl U33 rfl Z31 rfl rfl) fun a h=>?_
 refine st_g h rfl rfl (gT rfl) rfl rfl (fun e0=>v_load1 (eg e0 rfl) A31 (H.hp.get 1 rfl) rfl) fun a h=>?_
 refine st_g h rfl rfl (gT rfl) rfl rfl (fun e0=>v_lenN U31 (eg e0 rfl) rp1 H.zin) fun a h=>?_
 obtain ⟨z96,e96,hS⟩:=bv hS
 refine st_g h rfl rfl (gT rfl) rfl rfl (fun e0=>vB e96 (v_lt (eg e0 rfl) (eg e0 rfl))) fun a h=>?_
 refine sB h hS rfl (v_and rfl rfl) fun z97 e97 hS a h=>cN k h [0,3,4,11,102] O5 fun h=>?_
 refine cI h hS rfl (fun ec98 hS=>?_) fun ec98 hS=>?_
 refine rg fun K k=>cps 1 h rfl fun a h=>s1 h rfl (v_fieldAddr rfl U33 rfl Z31 rfl rfl) fun a h=>s1 h rfl (l1 H 1 A31) fun a h=>cps 1 h rfl fun a h=>?_
 obtain ⟨c99,hS⟩:=ck hS
 obtain ⟨z100,e100,hS⟩:=bv hS
 have q_101:=rp1.gel ⟨_,nodeEnc_dflt⟩ z94
 rw [←e100] at q_101
 obtain ⟨css_101,cl_101,rc_101,hc_101,q_101⟩:=q_101
 obtain ⟨v107_101_1,hcs_101,r107_101_1⟩:=node_op q_101
 refine st_idxC h U31 Z33 rfl rfl (rc_101.at H.zin) c99.1 (hc_101 c99) hcs_101 rfl fun a v107 A107 h=>?_
 refine s1 h rfl (v_loadAtA O17 rfl A107 A33 Z33 rfl rfl) fun a h=>?_
 obtain ⟨y102,f102,hS⟩:=bo hS
 refine st2 h rfl rfl rfl (dC call58 (hrec f102 H.zin r107_101_1 hr0 hp0 lp0 (H.hp.get 0 rfl) (H.offI 0 rfl _ rfl) rfl rfl (hGX _ H.outB))) ?_
 rintro v_ w ⟨rfl,hm_103,X⟩ a h
 obtain ⟨Z,hsub,hadd,H⟩:=H.lentB 0 rfl hm_103 X (hl':=O5) rfl
 have r107_101_1:=r107_101_1.sub hsub
 have rp1:=rp1.sub hsub
 have hp0:=hsub _ _ hp0
 have hr0:=hsub _ _ hr0
 have H:HZ B0 _ _ O5 _:=H
 refine zS h H 2 Z109 O6 O6 O5 fun w H=>?_
 refine cN k h [4] [_] fun h=>?_
 cases hS
 refine r1 hr h rfl (rvA H 2 A109 Z109 O6) ⟨rfl,H.hp.get 0 rfl,H.outB⟩
 refine c_skip<|rg fun K k=>cps 1 h rfl fun a h=>sC h H hS rfl (fun y104 f104=>dC call21 (value_Fail_ok f104 :)) fun y104 hS w X H a h=>?_
 obtain ⟨y105,f105,hS⟩:=bo hS
 refine st2v (T:=Ext) (V:=(gA y105)) h rfl rfl rfl (dC call85 (eval_run_made_ok f105 H.zin hr0 hp0 lp0)) fun w X a h=>?_
 have H:=H.ext X
 refine zS h H 2 Z109 O6 O6 O5 fun w H=>?_
 refine cN k h [4] [_] fun h=>?_
 cases hS
 refine r1 hr h rfl (rvA H 2 A109 Z109 O6) ⟨rfl,H.hp.get 0 rfl,H.outB⟩
 exact c_skip (ex2 ⟨hS,h.to,H,rp1,hp0,hr0⟩)
 refine rg fun K k=>sB h hS rfl (v_eq rfl rfl) fun z106 e106 hS a h=>cps 1 h rfl fun a h=>cN k h [0,3,4,14,34] O5 fun h=>?_
 refine cI h hS rfl (fun ec107 hS=>?_) fun ec107 hS=>?_
 exact c_skip (ex2 ⟨hS,h.to,H,rp1,hp0,hr0⟩)
 refine c_lregion<|sB h hS rfl (v_eq rfl rfl) fun z108 e108 hS a h=>cps 1 h rfl fun a h=>c_lnil ?_
 exact ex2 ⟨hS,h.to,H,rp1,hp0,hr0⟩
theorem eval_run_strict_ok {rec:Rn→Nd→(List (C × Bool))→Option ((Gt) × List (C × Bool))} (hrec:∀ {x0:Rn} {x1:Nd} {m0:List (C × Bool)} {res:(Gt) × List (C × Bool)} {w0:World} (hS:rec x0 x1 m0=some res) {Z:FZ} (hZ:Z.inn w0) {xv1:Value} (rp1:RdN Z xv1 nodeEnc x1.l) {rb0 pb0 mb0:Nat} (hr0:Z rb0=some (Cel [.iface 35 (pt pb0),.int .i64 x0.c.s,.int .i64 x0.c.c,.int .i64 x0.c.r,.map (some mb0)] 107)) (hp0:Z pb0=some (Cel ((x0.p:List V).flatMap vL) 39)) (lp0:x0.p.length=128) (hm0:w0.heap[mb0]?=some (MObj cV Value.bool m0)) (om0:Z mb0=none) {B0:Bs} (eB:B0=⟨w0,[mb0]⟩) {Zi:FZ} (eZ:Zi=Z) (hG:GW w0),Calls Tryz.prog 58 [(pt rb0),(nA x1 xv1)].toArray w0 (Ret fun v w=>v=.agg #[.int .i64 res.1.v.k,.int .i64 res.1.v.n,S res.1.v.s,.int .i64 res.1.c.s,.int .i64 res.1.c.c,.int .i64 res.1.c.r]∧w.heap[mb0]?=some (MObj cV Value.bool res.2)∧ExtB B0 w)) {x0:Rn} {x1:Nd} {m0:List (C × Bool)} {res:(Gt) × List (C × Bool)} {w0:World} (hS:eval_run_strict rec x0 x1 m0=some res) {Z:FZ} (hZ:Z.inn w0) {xv1:Value} (rp1:RdN Z xv1 nodeEnc x1.l) {rb0 pb0 mb0:Nat} (hr0:Z rb0=some (Cel [.iface 35 (pt pb0),.int .i64 x0.c.s,.int .i64 x0.c.c,.int .i64 x0.c.r,.map (some mb0)] 107)) (hp0:Z pb0=some (Cel ((x0.p:List V).flatMap vL) 39)) (lp0:x0.p.length=128) (hm0:w0.heap[mb0]?=some (MObj cV Value.bool m0)) (om0:Z mb0=none) {B0:Bs} (eB:B0=⟨w0,[mb0]⟩) {Zi:FZ} (eZ:Zi=Z) (hG:GW w0):Calls Tryz.prog 90 [(pt rb0),(nA x1 xv1)].toArray w0 (Ret fun v w=>v=.agg #[.int .i64 res.1.v.k,.int .i64 res.1.v.n,S res.1.v.s,.int .i64 res.1.c.s,.int .i64 res.1.c.c,.int .i64 res.1.c.r]∧w.heap[mb0]?=some (MObj cV Value.bool res.2)∧ExtB B0 w):=by
 have H:HZ B0 Zi Z [.blk mb0 (MObj cV Value.bool m0)] w0:=by rw [eB,eZ];exact HZ.startLM hZ hm0 om0
 refine enGM func90 [0,1] O2 fun Q a h hr hn=>?_
 have hGX:∀ w,ExtB B0 w→GW w:=fun w X=>hG.extM hm0 eB X
 clear eB eZ
 have H:HZ B0 _ _ [_] _:=H
 have dz:DZ B0 Zi Z []:=DZ.nil
 have h:Fr ⟨95,marks []⟩ _ a:=h
 unfold eval_run_strict at hS
 refine rg fun K k=>z_box h H rfl [_] rfl rfl fun a p1 w X H h=>?_
 have H:HZ B0 _ _ O2 _:=H
 refine z_box h H rfl O17 rfl rfl fun a p2 w X H h=>?_
 have H:HZ B0 _ _ O3 _:=H
 refine zA h H V109 O6 (fun x=>[_,_,_,x]) fun a p3 w X H h=>?_
 refine cz k<|rg fun K k=>cps 1 h rfl fun a h=>cz k ?_
 have H:=H.nilRow 182 3 rfl
 have H:HZ B0 _ _ O5 _:=H
 have el4:EL argEnc Z ([]:List (Cl 3)) ([]:List (Arg)):=trivial
 obtain ⟨J5,eJ5,hS⟩:=bv hS
 refine sqJ (fun a w=>∃ (Z:FZ) (s5:(List (C × Bool)) × Int × Int × (List UInt8) × Int × Int × Int × (List (Arg))) (sv6:Value) (cs6:List (Cl 3)) (Ds7:List Nat),J5 s5=some res∧Fr ⟨95,marks Ds7⟩ [(2,(pt p1)),(3,(pt p2)),(4,(pt p3)),(5,sv6)] a∧HZ B0 Zi Z [.blk mb0 (MObj cV Value.bool s5.1),.blk p1 (Cel [(pt rb0)] 104),.blk p2 (Cel (nL x1 xv1) 33),.blk p3 (Cel [.int .i64 s5.2.1,.int .i64 s5.2.2.1,S s5.2.2.2.1,.int .i64 s5.2.2.2.2.1,.int .i64 s5.2.2.2.2.2.1,.int .i64 s5.2.2.2.2.2.2.1] 109),.row 182 3 sv6 cs6.length (cs6.flatMap Subtype.val)] w∧EL argEnc Z cs6 s5.2.2.2.2.2.2.2∧RdN Z xv1 nodeEnc x1.l∧Z pb0=some (Cel ((x0.p:List V).flatMap vL) 39)∧Z rb0=some (Cel [.iface 35 (pt pb0),.int .i64 x0.c.s,.int .i64 x0.c.c,.int .i64 x0.c.r,.map (some mb0)] 107)∧DZ B0 Zi Z Ds7) ?_ ?_
 rintro a w ⟨Z,s5,sv6,cs6,Ds7,hS,h,H,el4,rp1,hp0,hr0,dz⟩
 subst eJ5
 refine flT 6 h fun K k=>?_
 refine F1 rfl (fun w X=>have H:=H.ext X;l1 H 1 isAgg104) ?_
 refine F1 rfl (fun w X=>v_fieldAddr rfl U33 rfl Z3 rfl rfl) ?_
 refine F1 rfl (fun w X=>have H:=H.ext X;l1 H 2 A3) ?_
 refine fcps 1 rfl ?_
 refine fC hS rfl (fun y8 f8 w X=>have H:=H.ext X;dC call123 (funcs_Apply_ok f8 (H.rowN (i:=4) rfl el4) (hGX _ H.outB) :)) fun y8 hS=>?_
 obtain ⟨y9,f9,hS⟩:=bo hS
 refine f2 (V:=(gA y9)) [89,93] rfl rfl rfl rfl (fun w X=>have Hs:=ZB.of H.zin X;have H:=H.ext X;dC call85 (eval_run_made_ok f9 (ZB.inn H.zin) (Hs _ _ hr0) (Hs _ _ hp0) lp0)) ?_
 refine fE [4,94] O2 H fun a w X H h=>?_
 refine zS h H 3 Z109 O6 O6 O5 fun w H=>?_
 refine cz k ?_
 cases hS
 refine c_ret (hr _ _ (outM h H dz fun a w less H h=>?_))
 have el4:=el4.subC less
 have rp1:=rp1.subC less
 refine out1 h rfl (rvA H 3 A109 Z109 O6) ⟨rfl,H.hp.get 0 rfl,H.outB⟩
 refine rg fun K k=>s1 h rfl (v_fieldAddr rfl U33 rfl Z31 rfl rfl) fun a h=>s1 h rfl (l1 H 2 A31) fun a h=>s1 h rfl (v_lenN U31 rfl rp1 H.zin) fun a h=>cps 1 h rfl fun a h=>cz k<|lb ?_
 obtain ⟨B11,eB11,hS⟩:=bv hS
 refine lpJ (fun mu_ a w=>∃ (Z:FZ) (s11:Int × (List (C × Bool)) × Int × Int × (List UInt8) × Int × Int × Int × (List (Arg))) (sv13:Value) (cs13:List (Cl 3)) (Ds14:List Nat),loopF B11 mu_ s11=some res∧Fr ⟨95,marks Ds14⟩ [(2,(pt p1)),(3,(pt p2)),(4,(pt p3)),(5,sv13),(17,xv1),(18,.int .i64 (x1.l.length:Int)),(19,.int .i64 s11.1)] a∧HZ B0 Zi Z [.blk mb0 (MObj cV Value.bool s11.2.1),.blk p1 (Cel [(pt rb0)] 104),.blk p2 (Cel (nL x1 xv1) 33),.blk p3 (Cel [.int .i64 s11.2.2.1,.int .i64 s11.2.2.2.1,S s11.2.2.2.2.1,.int .i64 s11.2.2.2.2.2.1,.int .i64 s11.2.2.2.2.2.2.1,.int .i64 s11.2.2.2.2.2.2.2.1] 109),.row 182 3 sv13 cs13.length (cs13.flatMap Subtype.val)] w∧EL argEnc Z cs13 s11.2.2.2.2.2.2.2.2∧RdN Z xv1 nodeEnc x1.l∧Z pb0=some (Cel ((x0.p:List V).flatMap vL) 39)∧Z rb0=some (Cel [.iface 35 (pt pb0),.int .i64 x0.c.s,.int .i64 x0.c.c,.int .i64 x0.c.r,.map (some mb0)] 107)∧DZ B0 Zi Z Ds14) KK ⟨_,_,_,_,_,hS,h.to,H,el4,rp1,hp0,hr0,dz⟩ ?_
 rintro mu_ a w ⟨Z,s11,sv13,cs13,Ds14,hS,h,H,el4,rp1,hp0,hr0,dz⟩
 obtain ⟨mu_,rfl,n11,en11,hS⟩:=lpX eB11 hS
 refine rg fun K k=>sB h hS rfl (v_lt rfl rfl) fun z15 e15 hS a h=>cz k<|sq<|cI h hS rfl (fun ec17 hS=>?_) fun ec17 hS=>?_
 refine c_skip<|sb ?_
 refine rg fun K k=>?_
 obtain ⟨c19,hS⟩:=ck hS
 obtain ⟨z20,e20,hS⟩:=bv hS
 have q_21:=rp1.gel ⟨_,nodeEnc_dflt⟩ s11.1
 rw [←e20] at q_21
 obtain ⟨css_21,cl_21,rc_21,hc_21,q_21⟩:=q_21
 obtain ⟨v21_21_1,hcs_21,r21_21_1⟩:=node_op q_21
 refine st_idxC h U31 Z33 rfl rfl (rc_21.at H.zin) c19.1 (hc_21 c19) hcs_21 rfl fun a v21 A21 h=>?_
 refine s1 h rfl (v_loadAtA O17 rfl A21 A33 Z33 rfl rfl) fun a h=>zA h H V33 O17 (fun x=>[_,_,_,_,_,x]) fun a p22 w X H h=>?_
 have A21:=At.ext A21 X
 refine z_store h H 5 rfl rfl rfl Z33 O17 rfl rfl (by obtain ⟨_,_,_,e_⟩:=(r21_21_1).form;subst e_;rfl) (by simp) O17 rfl (hl':=O6) rfl fun w H=>?_
 refine cz k<|rg fun K k=>zA h H zeroValue180 [_] (fun x=>[_,_,_,_,_,_,x]) fun a p23 w X H h=>?_
 refine cz k<|rg fun K k=>s1 h rfl (v_build bld182 [_] O3 rfl rfl) fun a h=>zA h H zeroValue182 O3 (fun x=>[_,_,_,_,_,_,_,x]) fun a p24 w X H h=>?_
 refine zS h H 7 Z182 O3 O3 O8 fun w H=>?_
 refine cz k<|flU 12 [8,9] h ?_
 refine F1 rfl (fun w X=>have H:=H.ext X;l1 H 1 isAgg104) ?_
 refine F1 rfl (fun w X=>v_nilCheck rfl) ?_
 refine F1 rfl (fun w X=>v_fieldAddr rfl underlying107 rfl sizeOf96 rfl rfl) ?_
 refine F1 rfl (fun w X=>have H:=H.ext X;v_load1 rfl isAgg96 (H.zin _ _ hr0) rfl) ?_
 refine F1 rfl (fun w X=>have H:=H.ext X;lA H 5 A33 Z33 O17) ?_
 obtain ⟨y25,f25,hS⟩:=bo hS
 refine f2 (V:=.tuple #[(cA y25.1),(cA y25.2.1),.bool y25.2.2]) [28,29] rfl rfl rfl rfl (fun w X=>have Hs:=ZB.of H.zin X;have H:=H.ext X;dC call52 (eval_Area_ok f25 (ZB.inn H.zin) (r21_21_1.sub Hs) (Hs _ _ hp0) lp0)) ?_
 refine fcps 4 rfl ?_
 refine f_alloc V28 O3 rfl rfl ?_
 refine f_alloc V28 O3 rfl rfl ?_
 refine fn_ ?_
 intro a w X hR hA
 obtain ⟨_,⟨p26,rfl,hb10⟩,_,⟨p27,rfl,hb11⟩,h⟩:=hR.out [2,3,4,5,7,8,9,10,11,17,18,19,31,32,33]
 have h:Fr _ [(33,_),(32,_),(31,_),(19,_),(18,_),(17,_),(11,_),(10,_),(9,_),(8,_),(7,_),(5,_),(4,_),(3,_),(2,_)] a:=h
 have lo10:=hA.lo' h (s:=10) rfl rfl
 have lo11:=hA.lo' h (s:=11) rfl rfl
 have ne_:=hA.ne' h (s:=10) (t:=11) rfl rfl rfl rfl rfl
 have H:=H.pushF2 X hb10 lo10 hb11 lo11 ne_
 have H:HZ B0 _ _ O10 _:=H
 refine tS h H 8 Z28 O3 O3 O10 fun w H=>?_
 refine tS h H 9 Z28 O3 O3 O10 fun w H=>?_
 refine tcps 1 h rfl fun a h=>?_
 refine tE ?_
 have H:=H.nilRow 109 6 rfl
 have H:HZ B0 _ _ O11 _:=H
 obtain ⟨J29,eJ29,hS⟩:=bv hS
 refine sqJ (fun a w=>∃ (Z:FZ) (s29:(List (C × Bool)) × Bool × Int × (List (Gt))) (sv30:Value) (Ds31:List Nat),J29 s29=some res∧Fr ⟨95,marks Ds31⟩ [(2,(pt p1)),(3,(pt p2)),(4,(pt p3)),(5,sv13),(8,(pt p23)),(9,(pt p24)),(17,xv1),(18,.int .i64 (x1.l.length:Int)),(19,.int .i64 s11.1)] a∧HZ B0 Zi Z [.blk mb0 (MObj cV Value.bool s29.1),.blk p1 (Cel [(pt rb0)] 104),.blk p2 (Cel (nL x1 xv1) 33),.blk p3 (Cel [.int .i64 s11.2.2.1,.int .i64 s11.2.2.2.1,S s11.2.2.2.2.1,.int .i64 s11.2.2.2.2.2.1,.int .i64 s11.2.2.2.2.2.2.1,.int .i64 s11.2.2.2.2.2.2.2.1] 109),.row 182 3 sv13 cs13.length (cs13.flatMap Subtype.val),.blk p22 (Cel (nL z20 v21_21_1) 33),.blk p23 (Cel [sv30] 180),.blk p24 (Cel [.bool s29.2.1,.int .i64 s29.2.2.1,.slice none 0 0] 182),.blk p26 (Cel (cL y25.1) 28),.blk p27 (Cel (cL y25.2.1) 28),.row 109 6 sv30 (s29.2.2.2:List (Gt)).length ((s29.2.2.2:List (Gt)).flatMap gtL)] w∧EL argEnc Z cs13 s11.2.2.2.2.2.2.2.2∧RdN Z xv1 nodeEnc x1.l∧RdN Z v21_21_1 nodeEnc z20.l∧Z pb0=some (Cel ((x0.p:List V).flatMap vL) 39)∧Z rb0=some (Cel [.iface 35 (pt pb0),.int .i64 x0.c.s,.int .i64 x0.c.c,.int .i64 x0.c.r,.map (some mb0)] 107)∧DZ B0 Zi Z Ds31) ?_ ?_
 rintro a w ⟨Z,s29,sv30,Ds31,hS,h,H,el4,rp1,r21_21_1,hp0,hr0,dz⟩
 subst eJ29
 have H:=H.nilRow 26 3 rfl
 have H:HZ B0 _ _ O12 _:=H
 obtain ⟨J33,eJ33,hS⟩:=bv hS
 refine sqJ (fun a w=>∃ (Z:FZ) (s33:Int × Int × (List UInt8) × Int × Int × Int × (List (V))) (sv34:Value) (Ds35:List Nat),J33 s33=some res∧Fr ⟨95,marks Ds35⟩ [(2,(pt p1)),(3,(pt p2)),(4,(pt p3)),(5,sv13),(9,(pt p24)),(17,xv1),(18,.int .i64 (x1.l.length:Int)),(19,.int .i64 s11.1)] a∧HZ B0 Zi Z [.blk mb0 (MObj cV Value.bool s29.1),.blk p1 (Cel [(pt rb0)] 104),.blk p2 (Cel (nL x1 xv1) 33),.blk p3 (Cel [.int .i64 s33.1,.int .i64 s33.2.1,S s33.2.2.1,.int .i64 s33.2.2.2.1,.int .i64 s33.2.2.2.2.1,.int .i64 s33.2.2.2.2.2.1] 109),.row 182 3 sv13 cs13.length (cs13.flatMap Subtype.val),.blk p22 (Cel (nL z20 v21_21_1) 33),.blk p23 (Cel [sv30] 180),.blk p24 (Cel [.bool s29.2.1,.int .i64 s29.2.2.1,sv34] 182),.blk p26 (Cel (cL y25.1) 28),.blk p27 (Cel (cL y25.2.1) 28),.row 109 6 sv30 (s29.2.2.2:List (Gt)).length ((s29.2.2.2:List (Gt)).flatMap gtL),.row 26 3 sv34 (s33.2.2.2.2.2.2:List (V)).length ((s33.2.2.2.2.2.2:List (V)).flatMap vL)] w∧EL argEnc Z cs13 s11.2.2.2.2.2.2.2.2∧RdN Z xv1 nodeEnc x1.l∧RdN Z v21_21_1 nodeEnc z20.l∧Z pb0=some (Cel ((x0.p:List V).flatMap vL) 39)∧Z rb0=some (Cel [.iface 35 (pt pb0),.int .i64 x0.c.s,.int .i64 x0.c.c,.int .i64 x0.c.r,.map (some mb0)] 107)∧DZ B0 Zi Z Ds35) ?_ ?_
 rintro a w ⟨Z,s33,sv34,Ds35,hS,h,H,el4,rp1,r21_21_1,hp0,hr0,dz⟩
 subst eJ33
 refine c_lregion<|cps 1 h rfl fun a h=>s1 h rfl (lA H 7 isAgg182 Z182 O3) fun a h=>?_
 obtain ⟨Z,hsub,H,rz11_36⟩:=H.freezeRow (enc:=vL) (out:=s33.2.2.2.2.2.2) 11 rfl
 have dz:=dz.sub hsub
 have el4:=el4.sub hsub
 have r21_21_1:=r21_21_1.sub hsub
 have rp1:=rp1.sub hsub
 have hp0:=hsub _ _ hp0
 have hr0:=hsub _ _ hr0
 have H:HZ B0 _ _ O12 _:=H
 refine z_slice (enc:=(Subtype.val (p:=fun l:List Value=>l.length=3))) ([⟨[.bool s29.2.1,.int .i64 s29.2.2.1,sv34],rfl⟩]:List (Cl 3)) h H U179 Z182 zeroValue182 rfl (zl:=[.bool false,.int .i64 0,.slice none 0 0]) kR (plA_get 1 3) [_] O3 rfl rfl rfl rfl rfl fun a v86_37 Z w hsub X H r86_37 h=>?_
 have dz:=dz.sub hsub
 have el4:=el4.sub hsub
 have r21_21_1:=r21_21_1.sub hsub
 have rp1:=rp1.sub hsub
 have rz11_36:=rz11_36.sub hsub
 have hp0:=hsub _ _ hp0
 have hr0:=hsub _ _ hr0
 have r86_37:RdN Z v86_37 argEnc [(⟨s29.2.1,s29.2.2.1,s33.2.2.2.2.2.2⟩:Arg)]:=⟨_,r86_37,⟨⟨_,rfl,rz11_36⟩,trivial⟩⟩
 obtain ⟨c39,hS⟩:=ck hS
 obtain ⟨z40,e40,hS⟩:=bv hS
 obtain ⟨cy_38,ry_38,ey_38⟩:=id r86_37
 refine z_appendS (enc:=(Subtype.val (p:=fun l:List Value=>l.length=3))) (out:=cs13) (data:=cy_38) h H 4 rfl U179 app182 rfl rfl rfl ry_38 (fun c=>c.2) ey_38.one (bnd el4.len ey_38.len c39) rfl fun a v87_38 w H h=>?_
 have el4:=EL.append el4 ey_38
 rw [←e40] at el4
 have el4:EL argEnc Z (List.append (α:=Cl 3) cs13 cy_38) z40:=el4
 have H:HZ B0 _ _ O12 _:=H
 refine cps 1 h rfl fun a h=>c_lnil<|cO h [2,3,4,5,17,18,19] O7 fun h=>?_
 refine c_lregion<|sI h hS rfl (v_addw rfl rfl) fun z41 e41 hS a h=>cps 1 h rfl fun a h=>c_lnil ?_
 exact exL (ex5 ⟨lpN en11 hS,h.to,(H.keepN 5 rfl),el4,rp1,hp0,hr0,dz⟩)
 refine rg fun K k=>s1 h rfl (l1 H 6 isAgg180) fun a h=>s1 h rfl (v_len underlying180 rfl (H.getRow (i:=10) (enc:=gtL) rfl)) fun a h=>cps 1 h rfl fun a h=>cz k<|lb ?_
 obtain ⟨B43,eB43,hS⟩:=bv hS
 refine lpJ (fun mu_ a w=>∃ (Z:FZ) (s43:Int × Int × Int × (List UInt8) × Int × Int × Int × (List (V))) (sv45:Value) (Ds46:List Nat),loopF B43 mu_ s43=some res∧Fr ⟨95,marks Ds46⟩ [(2,(pt p1)),(3,(pt p2)),(4,(pt p3)),(5,sv13),(9,(pt p24)),(17,xv1),(18,.int .i64 (x1.l.length:Int)),(19,.int .i64 s11.1),(59,sv30),(60,.int .i64 (s29.2.2.2.length:Int)),(61,.int .i64 s43.1)] a∧HZ B0 Zi Z [.blk mb0 (MObj cV Value.bool s29.1),.blk p1 (Cel [(pt rb0)] 104),.blk p2 (Cel (nL x1 xv1) 33),.blk p3 (Cel [.int .i64 s43.2.1,.int .i64 s43.2.2.1,S s43.2.2.2.1,.int .i64 s43.2.2.2.2.1,.int .i64 s43.2.2.2.2.2.1,.int .i64 s43.2.2.2.2.2.2.1] 109),.row 182 3 sv13 cs13.length (cs13.flatMap Subtype.val),.blk p22 (Cel (nL z20 v21_21_1) 33),.blk p23 (Cel [sv30] 180),.blk p24 (Cel [.bool s29.2.1,.int .i64 s29.2.2.1,sv45] 182),.blk p26 (Cel (cL y25.1) 28),.blk p27 (Cel (cL y25.2.1) 28),.row 109 6 sv30 (s29.2.2.2:List (Gt)).length ((s29.2.2.2:List (Gt)).flatMap gtL),.row 26 3 sv45 (s43.2.2.2.2.2.2.2:List (V)).length ((s43.2.2.2.2.2.2.2:List (V)).flatMap vL)] w∧EL argEnc Z cs13 s11.2.2.2.2.2.2.2.2∧RdN Z xv1 nodeEnc x1.l∧RdN Z v21_21_1 nodeEnc z20.l∧Z pb0=some (Cel ((x0.p:List V).flatMap vL) 39)∧Z rb0=some (Cel [.iface 35 (pt pb0),.int .i64 x0.c.s,.int .i64 x0.c.c,.int .i64 x0.c.r,.map (some mb0)] 107)∧DZ B0 Zi Z Ds46) KK ⟨_,_,_,_,hS,h.to,H,el4,rp1,r21_21_1,hp0,hr0,dz⟩ ?_
 rintro mu_ a w ⟨Z,s43,sv45,Ds46,hS,h,H,el4,rp1,r21_21_1,hp0,hr0,dz⟩
 obtain ⟨mu_,rfl,n43,en43,hS⟩:=lpX eB43 hS
 refine rg fun K k=>sB h hS rfl (v_lt rfl rfl) fun z47 e47 hS a h=>cz k<|sq<|cI h hS rfl (fun ec49 hS=>?_) fun ec49 hS=>?_
 refine c_skip<|sb ?_
 refine rg fun K k=>?_
 obtain ⟨c51,hS⟩:=ck hS
 obtain ⟨z52,e52,hS⟩:=bv hS
 refine st_idx h underlying180 Z109 rfl rfl (H.getRow (i:=10) (enc:=gtL) rfl) (fun _=>rfl) z52 c51.1 (by rw [e52];exact gel_some c51) rfl fun a v63 A63 h=>?_
 refine s1 h rfl (v_loadAtA O6 rfl A63 A109 Z109 rfl rfl) fun a h=>zA h H V109 O6 (fun x=>[_,_,_,_,_,_,_,_,_,_,_,_,x]) fun a p53 w X H h=>?_
 have A63:=At.ext A63 X
 refine zS h H 12 Z109 O6 O6 O13 fun w H=>?_
 refine cz k<|sq<|rg fun K k=>s1 h rfl (v_fieldAddr rfl U109 rfl Z26 rfl rfl) fun a h=>s1 h rfl (v_fieldAddr rfl U26 rfl Z3 rfl rfl) fun a h=>s1 h rfl (l1 H 12 A3) fun a h=>sB h hS rfl (v_eq rfl rfl) fun z55 e55 hS a h=>cps 1 h rfl fun a h=>st_g h rfl rfl (gT rfl) rfl rfl (fun e0=>v_fieldAddr rfl U33 rfl Z3 rfl rfl) fun a h=>?_
 refine st_g h rfl rfl (gT rfl) rfl rfl (fun e0=>v_load1 (eg e0 rfl) A3 (H.hp.get 2 rfl) rfl) fun a h=>?_
 obtain ⟨y56,f56,hS⟩:=bo hS
 refine st_gd (T:=Ext) (V:=.bool y56) h rfl rfl (gT rfl) rfl rfl (Ext.refl _) (fun e0=>d_call [_] (evs_c (eg e0 rfl) evs_n) call122 (funcs_Bears_ok (x0:=x1.op) (ifT e0 f56) (hGX _ H.outB))) fun w X a h=>?_
 have H:=H.ext X
 obtain ⟨z57,e57,hS⟩:=bv hS
 refine st_g h rfl rfl (gT rfl) rfl rfl (fun e0=>vB e57 (v_not (eg e0 rfl))) fun a h=>?_
 refine sB h hS rfl (v_and rfl rfl) fun z58 e58 hS a h=>cN k h [2,3,4,5,9,15,17,18,19,59,60,61,74] O13 fun h=>?_
 refine cI h hS rfl (fun ec59 hS=>?_) fun ec59 hS=>?_
 refine rg fun K k=>s1 h rfl (lA H 12 A109 Z109 O6) fun a h=>zS h H 3 Z109 O6 O6 O13 fun w H=>?_
 refine cN k h [4] [_] fun h=>?_
 cases hS
 refine c_ret (hr _ _ (outM h H dz fun a w less H h=>?_))
 have el4:=el4.subC less
 have r21_21_1:=r21_21_1.subC less
 have rp1:=rp1.subC less
 refine out1 h rfl (rvA H 3 A109 Z109 O6) ⟨rfl,H.hp.get 0 rfl,H.outB⟩
 refine c_skip<|c_lregion<|s1 h rfl (v_fieldAddr rfl U182 rfl Z63 rfl rfl) fun a h=>s1 h rfl (l1 H 7 isAgg63) fun a h=>s1 h rfl (v_fieldAddr rfl U109 rfl Z26 rfl rfl) fun a h=>s1 h rfl (lA H 12 A26 Z26 O3) fun a h=>z_slice (enc:=vL) ([z52.v]:List (V)) h H U63 Z26 V26 rfl (zl:=[.int .i64 0,.int .i64 0,S []]) kR (plA_get 1 3) [_] O3 rfl rfl rfl rfl rfl fun a v80_60 Z w hsub X H r80_60 h=>?_
 have dz:=dz.sub hsub
 have el4:=el4.sub hsub
 have r21_21_1:=r21_21_1.sub hsub
 have rp1:=rp1.sub hsub
 have hp0:=hsub _ _ hp0
 have hr0:=hsub _ _ hr0
 obtain ⟨c62,hS⟩:=ck hS
 obtain ⟨z63,e63,hS⟩:=bv hS
 refine z_appendS (enc:=vL) (out:=s43.2.2.2.2.2.2.2) (data:=[z52.v]) h H 11 rfl U63 app26 rfl rfl rfl r80_60 (fun _=>rfl) (fun _ _=>rfl) c62 rfl fun a v81_61 w H h=>?_
 rw [←e63] at H
 have H:HZ B0 _ _ O13 _:=H
 refine s1 h rfl (v_fieldAddr rfl U182 rfl Z63 rfl rfl) fun a h=>z_store h H 7 rfl rfl rfl Z63 [v81_61] (by rw [(H.rowZ (i:=11) (enc:=vL) rfl).cells]) rfl (by obtain ⟨_,_,_,e_⟩:=(H.rowZ (i:=11) (enc:=vL) rfl).form;subst e_;rfl) (by simp) O3 rfl (hl':=O13) rfl fun w H=>?_
 refine c_lnil<|cO h [2,3,4,5,9,17,18,19,59,60,61] O11 fun h=>?_
 refine c_lregion<|sI h hS rfl (v_addw rfl rfl) fun z64 e64 hS a h=>cps 1 h rfl fun a h=>c_lnil ?_
 exact exL (ex4 ⟨lpN en43 hS,h.to,(H.keepN 12 rfl),el4,rp1,r21_21_1,hp0,hr0,dz⟩)
 exact c_exit (ex4 ⟨hS,h.to,H,el4,rp1,r21_21_1,hp0,hr0,dz⟩)
 refine rg fun K k=>cps 1 h rfl fun a h=>cN k h [2,3,4,5,7,8,9,10,11,17,18,19,34] O13 fun h=>?_
 refine cI h hS rfl (fun ec65 hS=>?_) fun ec65 hS=>?_
 refine lt [7] h H ?_
 refine L1 rfl (fun w X=>v_fieldAddr rfl U28 rfl Z3 rfl rfl) ?_
 refine L1 rfl (fun w X=>have H:=X;l1 H 9 A3) ?_
 refine L1 rfl (fun w X=>v_fieldAddr rfl U28 rfl Z3 rfl rfl) ?_
 refine L1 rfl (fun w X=>have H:=X;l1 H 8 A3) ?_
 refine lI hS rfl (fun w X=>v_subw rfl rfl) fun z66 e66 hS=>?_
 refine lI hS rfl (fun w X=>v_addw rfl rfl) fun z67 e67 hS=>?_
 refine L1 rfl (fun w X=>v_fieldAddr rfl U182 rfl sizeOf4 rfl rfl) ?_
 refine LZ 7 sizeOf4 [_] O3 O11 ?_
 refine L1 rfl (fun w X=>v_fieldAddr rfl U182 rfl Z3 rfl rfl) ?_
 refine LZ 7 Z3 [_] O3 O11 ?_
 refine lE [2,3,4,5,8,9,10,11,17,18,19] O11 fun a w H h=>?_
 have H:HZ B0 _ _ O11 _:=H
 refine rg fun K k=>s1 h rfl (lA H 8 A28 Z28 O3) fun a h=>s1 h rfl (lA H 9 A28 Z28 O3) fun a h=>?_
 obtain ⟨y68,f68,hS⟩:=bo hS
 refine st2 h rfl rfl rfl (dC call80 (addr_Cells_ok f68)) ?_
 rintro v_ w ⟨cp_68,rfl,it45_68,X⟩ a h
 obtain ⟨Z,hsub,hadd,H⟩:=H.adopt' X
 have dz:=dz.sub hsub
 have el4:=el4.sub hsub
 have r21_21_1:=r21_21_1.sub hsub
 have rp1:=rp1.sub hsub
 have hp0:=hsub _ _ hp0
 have hr0:=hsub _ _ hr0
 have it45_68:=it45_68.sub (ZB.empty.trans hadd)
 refine cN k h [2,3,4,5,8,9,17,18,19,45] O10 fun h=>?_
 refine lb<|cO h [2,3,4,5,8,9,17,18,19,45] O10 fun h=>?_
 obtain ⟨B70,eB70,hS⟩:=bv hS
 obtain ⟨f70,hf70,hS⟩:=bo hS
 refine c_rangeF (fun D pre Z hl=>∃ (s70:(List (C × Bool)) × (List (Gt))) (sv71:Value),foldO B70 (s11.2.1,([]:List (Gt))) pre=some s70∧hl=[.blk mb0 (MObj cV Value.bool s70.1),.blk p1 (Cel [(pt rb0)] 104),.blk p2 (Cel (nL x1 xv1) 33),.blk p3 (Cel [.int .i64 s11.2.2.1,.int .i64 s11.2.2.2.1,S s11.2.2.2.2.1,.int .i64 s11.2.2.2.2.2.1,.int .i64 s11.2.2.2.2.2.2.1,.int .i64 s11.2.2.2.2.2.2.2.1] 109),.row 182 3 sv13 cs13.length (cs13.flatMap Subtype.val),.blk p22 (Cel (nL z20 v21_21_1) 33),.blk p23 (Cel [sv71] 180),.blk p24 (Cel [.bool true,.int .i64 z67,.slice none 0 0] 182),.blk p26 (Cel (cL y25.1) 28),.blk p27 (Cel (cL y25.2.1) 28),.row 109 6 sv71 (s70.2:List (Gt)).length ((s70.2:List (Gt)).flatMap gtL)]∧DZ B0 Zi Z (D::Ds14)∧EL argEnc Z cs13 s11.2.2.2.2.2.2.2.2∧RdN Z xv1 nodeEnc x1.l∧RdN Z v21_21_1 nodeEnc z20.l∧Z pb0=some (Cel ((x0.p:List V).flatMap vL) 39)∧Z rb0=some (Cel [.iface 35 (pt pb0),.int .i64 x0.c.s,.int .i64 x0.c.c,.int .i64 x0.c.r,.map (some mb0)] 107)) h H dz it45_68 call112 ?_ ?_ ?_
 intro D Z hsub dz
 have el4:=el4.sub hsub
 have it45_68:=it45_68.sub hsub
 have r21_21_1:=r21_21_1.sub hsub
 have rp1:=rp1.sub hsub
 have hp0:=hsub _ _ hp0
 have hr0:=hsub _ _ hr0
 exact ⟨_,_,rfl,rfl,dz,el4,rp1,r21_21_1,hp0,hr0⟩
 rintro D R o pre x Z1 Z hl a w hpx ⟨s70,sv71,hfs,rfl,dz,el4,rp1,r21_21_1,hp0,hr0⟩ hsub H h
 have dz:=dz.sub hsub
 have el4:=el4.sub hsub
 have r21_21_1:=r21_21_1.sub hsub
 have rp1:=rp1.sub hsub
 have hp0:=hsub _ _ hp0
 have hr0:=hsub _ _ hr0
 obtain ⟨q70,hS,hfs⟩:=fold_step hf70 hfs hpx
 replace hS:=fdS eB70 hS
 have H:HZ B0 _ _ O12 _:=H
 refine rb_region ?_
 refine zA h H V28 O3 (fun x=>[_,_,_,_,_,_,_,_,_,_,_,_,x]) fun a p72 w X H h=>?_
 refine zS h H 12 Z28 O3 O3 O13 fun w H=>?_
 refine rb_nil ?_
 refine ⟨H.hp.get 11 rfl,fun o=>?_⟩
 have H:=H.putAt 11 rfl o rfl
 have H:HZ B0 _ _ O13 _:=H
 revert H
 generalize World.putObj _ _ _=w
 intro H
 refine rb_block ?_
 refine rb_anyC 0 5 H (fun w H=>?_)
 refine aC_hoist 0 [5,6] h rfl (fun w H=>l1 H 6 isAgg180) kR rfl (fun a h=>?_)
 refine aC_hoist 1 [3,4,5,6] h rfl (fun w H=>l1 H 1 isAgg104) kR rfl (fun a h=>?_)
 refine aC_hoist 2 [3,4,5,6] h rfl (fun w H=>lA H 12 A28 Z28 O3) kR rfl (fun a h=>?_)
 obtain ⟨y73,f73,hS⟩:=bo hS
 have zs_:=H.sub
 refine aC_op 3 h rfl kR (fun _=>H.dead1 0) (Does.goes h (dC call86 (eval_run_cell_ok f73 H.zin hr0 hp0 lp0 (H.hp.get 0 rfl) (H.offI 0 rfl _ rfl) rfl rfl))) rfl ?_
 rintro v_ w a ⟨rfl,hm_74,X⟩ h
 obtain ⟨Zq,hsq,haq,H⟩:=H.lentB 0 rfl hm_74 X (hl':=O13) rfl
 have H:=H.weak hsq zs_
 have H:HZ B0 _ _ O13 _:=H
 refine aC_slice (enc:=gtL) ([y73.1]:List (Gt)) 4 h H rfl kR (fun _=>H.dead1 0) rfl underlying180 Z109 V109 rfl (zl:=[.int .i64 0,.int .i64 0,S [],.int .i64 0,.int .i64 0,.int .i64 0]) kR (plA_get 1 6) [_] O6 rfl rfl rfl rfl (fun a v_ Zq w hsq H rq h=>?_)
 obtain ⟨c76,hS⟩:=ck hS
 obtain ⟨z77,e77,hS⟩:=bv hS
 refine aC_append (enc:=gtL) (out:=s70.2) (data:=[y73.1]) 5 h H 10 rfl kR (fun _=>(H.weak hsq zs_).dead1 0) rfl rfl underlying180 app109 rfl rfl rfl rq (fun _=>rfl) (fun _ _=>rfl) c76 (fun a v52_75 w H h=>?_)
 rw [←e77] at H
 have H:=H.weak hsq zs_
 have H:HZ B0 _ _ O13 _:=H
 refine aC_st 6 h rfl kR (fun hq=>nomatch hq) (g_store1 h H 6 sizeOf180 (by rw [(H.rowZ (i:=10) (enc:=gtL) rfl).cells]) (H.rowZ (i:=10) (enc:=gtL) rfl).one) rfl ?_
 rintro _ w a H h
 have H:HZ B0 _ _ O13 _:=H
 refine aC_end (fun hq=>nomatch hq) kR ?_
 cases hS
 exact ⟨_,[_,_,_,_,_,_,_,_,_,_,_],⟨_,_,hfs,rfl,dz,el4,rp1,r21_21_1,hp0,hr0⟩,H.keepN 12 rfl⟩
 rintro D70 Z1 Z hl R o a w ⟨q70,sv78,hfs,rfl,dz,el4,rp1,r21_21_1,hp0,hr0⟩ hsub H h
 have e_:=so (hf70.symm.trans hfs)
 subst e_
 have dz:=dz.sub hsub
 have el4:=el4.sub hsub
 have r21_21_1:=r21_21_1.sub hsub
 have rp1:=rp1.sub hsub
 have hp0:=hsub _ _ hp0
 have hr0:=hsub _ _ hr0
 have H:=H.keepN 11 rfl
 have H:HZ B0 _ _ O11 _:=H
 exact ex4 ⟨hS,h.to,H,el4,rp1,r21_21_1,hp0,hr0,dz⟩
 refine c_lanyC 0 5 H (fun w H=>?_)
 refine aC_hoist 0 [5,6] h rfl (fun w H=>l1 H 6 isAgg180) kR rfl (fun a h=>?_)
 refine aC_hoist 1 [3,4,5,6] h rfl (fun w H=>l1 H 1 isAgg104) kR rfl (fun a h=>?_)
 refine aC_hoist 2 [3,4,5,6] h rfl (fun w H=>lA H 5 A33 Z33 O17) kR rfl (fun a h=>?_)
 obtain ⟨y79,f79,hS⟩:=bo hS
 have zs_:=H.sub
 refine aC_op 3 h rfl kR (fun _=>H.dead1 0) (Does.goes h (dC call58 (hrec f79 H.zin r21_21_1 hr0 hp0 lp0 (H.hp.get 0 rfl) (H.offI 0 rfl _ rfl) rfl rfl (hGX _ H.outB)))) rfl ?_
 rintro v_ w a ⟨rfl,hm_80,X⟩ h
 obtain ⟨Zq,hsq,haq,H⟩:=H.lentB 0 rfl hm_80 X (hl':=O11) rfl
 have H:=H.weak hsq zs_
 have H:HZ B0 _ _ O11 _:=H
 refine aC_slice (enc:=gtL) ([y79.1]:List (Gt)) 4 h H rfl kR (fun _=>H.dead1 0) rfl underlying180 Z109 V109 rfl (zl:=[.int .i64 0,.int .i64 0,S [],.int .i64 0,.int .i64 0,.int .i64 0]) kR (plA_get 1 6) [_] O6 rfl rfl rfl rfl (fun a v_ Zq w hsq H rq h=>?_)
 obtain ⟨c82,hS⟩:=ck hS
 obtain ⟨z83,e83,hS⟩:=bv hS
 refine aC_append (enc:=gtL) (out:=([]:List (Gt))) (data:=[y79.1]) 5 h H 10 rfl kR (fun _=>(H.weak hsq zs_).dead1 0) rfl rfl underlying180 app109 rfl rfl rfl rq (fun _=>rfl) (fun _ _=>rfl) c82 (fun a v58_81 w H h=>?_)
 rw [←e83] at H
 have H:=H.weak hsq zs_
 have H:HZ B0 _ _ O11 _:=H
 refine aC_st 6 h rfl kR (fun hq=>nomatch hq) (g_store1 h H 6 sizeOf180 (by rw [(H.rowZ (i:=10) (enc:=gtL) rfl).cells]) (H.rowZ (i:=10) (enc:=gtL) rfl).one) rfl ?_
 rintro _ w a H h
 have H:HZ B0 _ _ O11 _:=H
 refine aC_end (fun hq=>nomatch hq) kR ?_
 exact ex4 ⟨hS,h.to,H,el4,rp1,r21_21_1,hp0,hr0,dz⟩
 exact c_exit (ex5 ⟨hS,h.to,H,el4,rp1,hp0,hr0,dz⟩)
theorem eval_run_eval_B_ok {rec:Rn→Nd→(List (C × Bool))→Option ((Gt) × List (C × Bool))} (hrec:∀ {x0:Rn} {x1:Nd} {m0:List (C × Bool)} {res:(Gt) × List (C × Bool)} {w0:World} (hS:rec x0 x1 m0=some res) {Z:FZ} (hZ:Z.inn w0) {xv1:Value} (rp1:RdN Z xv1 nodeEnc x1.l) {rb0 pb0 mb0:Nat} (hr0:Z rb0=some (Cel [.iface 35 (pt pb0),.int .i64 x0.c.s,.int .i64 x0.c.c,.int .i64 x0.c.r,.map (some mb0)] 107)) (hp0:Z pb0=some (Cel ((x0.p:List V).flatMap vL) 39)) (lp0:x0.p.length=128) (hm0:w0.heap[mb0]?=some (MObj cV Value.bool m0)) (om0:Z mb0=none) {B0:Bs} (eB:B0=⟨w0,[mb0]⟩) {Zi:FZ} (eZ:Zi=Z) (hG:GW w0),Calls Tryz.prog 58 [(pt rb0),(nA x1 xv1)].toArray w0 (Ret fun v w=>v=.agg #[.int .i64 res.1.v.k,.int .i64 res.1.v.n,S res.1.v.s,.int .i64 res.1.c.s,.int .i64 res.1.c.c,.int .i64 res.1.c.r]∧w.heap[mb0]?=some (MObj cV Value.bool res.2)∧ExtB B0 w)) {x0:Rn} {x1:Nd} {m0:List (C × Bool)} {res:(Gt) × List (C × Bool)} {w0:World} (hS:eval_run_eval_B rec x0 x1 m0=some res) {Z:FZ} (hZ:Z.inn w0) {xv1:Value} (rp1:RdN Z xv1 nodeEnc x1.l) {rb0 pb0 mb0:Nat} (hr0:Z rb0=some (Cel [.iface 35 (pt pb0),.int .i64 x0.c.s,.int .i64 x0.c.c,.int .i64 x0.c.r,.map (some mb0)] 107)) (hp0:Z pb0=some (Cel ((x0.p:List V).flatMap vL) 39)) (lp0:x0.p.length=128) (hm0:w0.heap[mb0]?=some (MObj cV Value.bool m0)) (om0:Z mb0=none) {B0:Bs} (eB:B0=⟨w0,[mb0]⟩) {Zi:FZ} (eZ:Zi=Z) (hG:GW w0):Calls Tryz.prog 58 [(pt rb0),(nA x1 xv1)].toArray w0 (Ret fun v w=>v=.agg #[.int .i64 res.1.v.k,.int .i64 res.1.v.n,S res.1.v.s,.int .i64 res.1.c.s,.int .i64 res.1.c.c,.int .i64 res.1.c.r]∧w.heap[mb0]?=some (MObj cV Value.bool res.2)∧ExtB B0 w):=by
 have H:HZ B0 Zi Z [.blk mb0 (MObj cV Value.bool m0)] w0:=by rw [eB,eZ];exact HZ.startLM hZ hm0 om0
 refine enG func58 [0,1] O2 fun Q a h hr hn=>?_
 have hGX:∀ w,ExtB B0 w→GW w:=fun w X=>hG.extM hm0 eB X
 clear eB eZ
 have H:HZ B0 _ _ [_] _:=H
 unfold eval_run_eval_B at hS
 refine rg fun K k=>z_box h H rfl O17 rfl rfl fun a p1 w X H h=>?_
 have H:HZ B0 _ _ O2 _:=H
 refine zA h H V109 O6 (fun x=>[_,_,x]) fun a p2 w X H h=>?_
 refine cz k<|sq<|rg fun K k=>s1 h rfl (v_fieldAddr rfl U33 rfl Z3 rfl rfl) fun a h=>s1 h rfl (l1 H 1 A3) fun a h=>cz k<|lb<|rg fun K k=>sB h hS rfl (v_eq rfl rfl) fun z5 e5 hS a h=>cps 1 h rfl fun a h=>cz k<|cI h hS rfl (fun ec6 hS=>?_) fun ec6 hS=>?_
 refine rg fun K k=>cps 1 h rfl fun a h=>s1 h rfl (v_fieldAddr rfl U33 rfl Z26 rfl rfl) fun a h=>s1 h rfl (lA H 1 A26 Z26 O3) fun a h=>?_
 obtain ⟨y7,f7,hS⟩:=bo hS
 refine st2v (T:=Ext) (V:=(gA y7)) h rfl rfl rfl (dC call85 (eval_run_made_ok f7 H.zin hr0 hp0 lp0)) fun w X a h=>?_
 have H:=H.ext X
 refine zS h H 2 Z109 O6 O6 O3 fun w H=>?_
 refine cN k h [4] [_] fun h=>?_
 cases hS
 refine r1 hr h rfl (rvA H 2 A109 Z109 O6) ⟨rfl,H.hp.get 0 rfl,H.outB⟩
 obtain ⟨J9,eJ9,hS⟩:=bv hS
 refine sqJ (fun a w=>∃ (Z:FZ) (s9:Bool),J9 s9=some res∧Fr 110 [(0,(pt rb0)),(3,(pt p1)),(4,(pt p2)),(12,.int .i64 x1.k),(19,.bool s9)] a∧HZ B0 Zi Z [.blk mb0 (MObj cV Value.bool m0),.blk p1 (Cel (nL x1 xv1) 33),.blk p2 (Cel [.int .i64 0,.int .i64 0,S [],.int .i64 0,.int .i64 0,.int .i64 0] 109)] w∧RdN Z xv1 nodeEnc x1.l∧Z pb0=some (Cel ((x0.p:List V).flatMap vL) 39)∧Z rb0=some (Cel [.iface 35 (pt pb0),.int .i64 x0.c.s,.int .i64 x0.c.c,.int .i64 x0.c.r,.map (some mb0)] 107)) ?_ ?_
 rintro a w ⟨Z,s9,hS,h,H,rp1,hp0,hr0⟩
 subst eJ9
 refine cI h hS rfl (fun ec10 hS=>?_) fun ec10 hS=>?_
 refine flU 12 [8,9] h ?_
 refine fcps 1 rfl ?_
 refine F1 rfl (fun w X=>v_nilCheck rfl) ?_
 refine F1 rfl (fun w X=>v_fieldAddr rfl underlying107 rfl sizeOf96 rfl rfl) ?_
 refine F1 rfl (fun w X=>have H:=H.ext X;v_load1 rfl isAgg96 (H.zin _ _ hr0) rfl) ?_
 refine F1 rfl (fun w X=>have H:=H.ext X;lA H 1 A33 Z33 O17) ?_
 obtain ⟨y11,f11,hS⟩:=bo hS
 refine f2 (V:=.tuple #[(cA y11.1),(cA y11.2.1),.bool y11.2.2]) [27,28] rfl rfl rfl rfl (fun w X=>have Hs:=ZB.of H.zin X;have H:=H.ext X;dC call52 (eval_Area_ok f11 (ZB.inn H.zin) (rp1.sub Hs) (Hs _ _ hp0) lp0)) ?_
 refine fcps 4 rfl ?_
 refine f_alloc V28 O3 rfl rfl ?_
 refine f_alloc V28 O3 rfl rfl ?_
 refine fn_ ?_
 intro a w X hR hA
 obtain ⟨_,⟨p12,rfl,hb5⟩,_,⟨p13,rfl,hb6⟩,h⟩:=hR.out [0,4,5,6,30,31,32]
 have h:Fr 110 [(32,_),(31,_),(30,_),(6,_),(5,_),(4,_),(0,_)] a:=h
 have lo5:=hA.lo' h (s:=5) rfl rfl
 have lo6:=hA.lo' h (s:=6) rfl rfl
 have ne_:=hA.ne' h (s:=5) (t:=6) rfl rfl rfl rfl rfl
 have H:=H.pushF2 X hb5 lo5 hb6 lo6 ne_
 have H:HZ B0 _ _ O5 _:=H
 refine tS h H 3 Z28 O3 O3 O5 fun w H=>?_
 refine tS h H 4 Z28 O3 O3 O5 fun w H=>?_
 refine tcps 1 h rfl fun a h=>?_
 refine tE ?_
 refine sq<|rg fun K k=>cps 1 h rfl fun a h=>sB h hS rfl (v_not rfl) fun z15 e15 hS a h=>cN k h [0,4,5,6,34] O5 fun h=>?_
 refine cI h hS rfl (fun ec16 hS=>?_) fun ec16 hS=>?_
 refine rg fun K k=>cps 1 h rfl fun a h=>sC h H hS rfl (fun y17 f17=>dC call21 (value_Fail_ok f17 :)) fun y17 hS w X H a h=>?_
 obtain ⟨y18,f18,hS⟩:=bo hS
 refine st2v (T:=Ext) (V:=(gA y18)) h rfl rfl rfl (dC call85 (eval_run_made_ok f18 H.zin hr0 hp0 lp0)) fun w X a h=>?_
 have H:=H.ext X
 refine zS h H 2 Z109 O6 O6 O5 fun w H=>?_
 refine cN k h [4] [_] fun h=>?_
 cases hS
 refine r1 hr h rfl (rvA H 2 A109 Z109 O6) ⟨rfl,H.hp.get 0 rfl,H.outB⟩
 refine c_skip<|sq<|rg fun K k=>s1 h rfl (lA H 3 A28 Z28 O3) fun a h=>s1 h rfl (lA H 4 A28 Z28 O3) fun a h=>sB h hS rfl (v_aggne rfl rfl age28 (agq28 _ _ _ _ _ _)) fun z20 e20 hS a h=>cN k h [0,4,5,40] O4 fun h=>?_
 refine cI h hS rfl (fun ec21 hS=>?_) fun ec21 hS=>?_
 refine rg fun K k=>cps 1 h rfl fun a h=>sC h H hS rfl (fun y22 f22=>dC call21 (value_Fail_ok f22 :)) fun y22 hS w X H a h=>?_
 obtain ⟨y23,f23,hS⟩:=bo hS
 refine st2v (T:=Ext) (V:=(gA y23)) h rfl rfl rfl (dC call85 (eval_run_made_ok f23 H.zin hr0 hp0 lp0)) fun w X a h=>?_
 have H:=H.ext X
 refine zS h H 2 Z109 O6 O6 O5 fun w H=>?_
 refine cN k h [4] [_] fun h=>?_
 cases hS
 refine r1 hr h rfl (rvA H 2 A109 Z109 O6) ⟨rfl,H.hp.get 0 rfl,H.outB⟩
 refine c_skip<|rg fun K k=>cps 1 h rfl fun a h=>s1 h rfl (lA H 3 A28 Z28 O3) fun a h=>?_
 obtain ⟨y24,f24,hS⟩:=bo hS
 refine st2 h rfl rfl rfl (dC call86 (eval_run_cell_ok f24 H.zin hr0 hp0 lp0 (H.hp.get 0 rfl) (H.offI 0 rfl _ rfl) rfl rfl)) ?_
 rintro v_ w ⟨rfl,hm_25,X⟩ a h
 obtain ⟨Z,hsub,hadd,H⟩:=H.lentB 0 rfl hm_25 X (hl':=O5) rfl
 have rp1:=rp1.sub hsub
 have hp0:=hsub _ _ hp0
 have hr0:=hsub _ _ hr0
 have H:HZ B0 _ _ O5 _:=H
 refine zS h H 2 Z109 O6 O6 O5 fun w H=>?_
 refine cN k h [4] [_] fun h=>?_
 cases hS
 refine r1 hr h rfl (rvA H 2 A109 Z109 O6) ⟨rfl,H.hp.get 0 rfl,H.outB⟩
 obtain ⟨J27,eJ27,hS⟩:=bv hS
 refine sqJ (fun a w=>∃ (Z:FZ) (s27:Bool),J27 s27=some res∧Fr 110 [(0,(pt rb0)),(3,(pt p1)),(4,(pt p2)),(12,.int .i64 x1.k),(47,.bool s27)] a∧HZ B0 Zi Z [.blk mb0 (MObj cV Value.bool m0),.blk p1 (Cel (nL x1 xv1) 33),.blk p2 (Cel [.int .i64 0,.int .i64 0,S [],.int .i64 0,.int .i64 0,.int .i64 0] 109)] w∧RdN Z xv1 nodeEnc x1.l∧Z pb0=some (Cel ((x0.p:List V).flatMap vL) 39)∧Z rb0=some (Cel [.iface 35 (pt pb0),.int .i64 x0.c.s,.int .i64 x0.c.c,.int .i64 x0.c.r,.map (some mb0)] 107)) ?_ ?_
 rintro a w ⟨Z,s27,hS,h,H,rp1,hp0,hr0⟩
 subst eJ27
 refine cI h hS rfl (fun ec28 hS=>?_) fun ec28 hS=>?_
 refine rg fun K k=>cps 1 h rfl fun a h=>s1 h rfl (v_fieldAddr rfl U33 rfl Z31 rfl rfl) fun a h=>s1 h rfl (l1 H 1 A31) fun a h=>?_
 obtain ⟨c29,hS⟩:=ck hS
 obtain ⟨z30,e30,hS⟩:=bv hS
 have q_31:=rp1.gel ⟨_,nodeEnc_dflt⟩ 0
 rw [←e30] at q_31
 obtain ⟨css_31,cl_31,rc_31,hc_31,q_31⟩:=q_31
 obtain ⟨v53_31_1,hcs_31,r53_31_1⟩:=node_op q_31
 refine st_idxC h U31 Z33 rfl rfl (rc_31.at H.zin) c29.1 (hc_31 c29) hcs_31 rfl fun a v53 A53 h=>?_
 refine s1 h rfl (v_loadAtA O17 rfl A53 A33 Z33 rfl rfl) fun a h=>?_
 obtain ⟨y32,f32,hS⟩:=bo hS
 refine st2 h rfl rfl rfl (dC call58 (hrec f32 H.zin r53_31_1 hr0 hp0 lp0 (H.hp.get 0 rfl) (H.offI 0 rfl _ rfl) rfl rfl (hGX _ H.outB))) ?_
 rintro v_ w ⟨rfl,hm_33,X⟩ a h
 obtain ⟨Z,hsub,hadd,H⟩:=H.lentB 0 rfl hm_33 X (hl':=O3) rfl
 have r53_31_1:=r53_31_1.sub hsub
 have rp1:=rp1.sub hsub
 have hp0:=hsub _ _ hp0
 have hr0:=hsub _ _ hr0
 have H:HZ B0 _ _ O3 _:=H
 refine zA h H V109 O6 (fun x=>[_,_,_,x]) fun a p34 w X H h=>?_
 refine zS h H 3 Z109 O6 O6 O4 fun w H=>?_
 refine cN k h [0,3,4,8] O4 fun h=>?_
 refine sq<|rg fun K k=>s1 h rfl (v_fieldAddr rfl U109 rfl Z26 rfl rfl) fun a h=>s1 h rfl (v_fieldAddr rfl U26 rfl Z3 rfl rfl) fun a h=>s1 h rfl (l1 H 3 A3) fun a h=>sB h hS rfl (v_eq rfl rfl) fun z36 e36 hS a h=>cz k<|cI h hS rfl (fun ec37 hS=>?_) fun ec37 hS=>?_
 refine rg fun K k=>s1 h rfl (lA H 3 A109 Z109 O6) fun a h=>zS h H 2 Z109 O6 O6 O4 fun w H=>?_
 refine cN k h [4] [_] fun h=>?_
 cases hS
 refine r1 hr h rfl (rvA H 2 A109 Z109 O6) ⟨rfl,H.hp.get 0 rfl,H.outB⟩
 refine c_skip<|cO h [0,3,4,8] O4 fun h=>?_
 refine rg fun K k=>cps 1 h rfl fun a h=>s1 h rfl (v_fieldAddr rfl U33 rfl Z3 rfl rfl) fun a h=>s1 h rfl (l1 H 1 A3) fun a h=>s1 h rfl (v_fieldAddr rfl U109 rfl Z26 rfl rfl) fun a h=>s1 h rfl (lA H 3 A26 Z26 O3) fun a h=>sC h H hS rfl (fun y38 f38=>dC call87 (funcs_Unary_ok f38 :)) fun y38 hS w X H a h=>?_
 obtain ⟨y39,f39,hS⟩:=bo hS
 refine st2v (T:=Ext) (V:=(gA y39)) h rfl rfl rfl (dC call85 (eval_run_made_ok f39 H.zin hr0 hp0 lp0)) fun w X a h=>?_
 have H:=H.ext X
 refine zS h H 2 Z109 O6 O6 O4 fun w H=>?_
 refine cN k h [4] [_] fun h=>?_
 cases hS
 refine r1 hr h rfl (rvA H 2 A109 Z109 O6) ⟨rfl,H.hp.get 0 rfl,H.outB⟩
 refine rg fun K k=>sB h hS rfl (v_eq rfl rfl) fun z40 e40 hS a h=>cps 1 h rfl fun a h=>cz k<|cI h hS rfl (fun ec41 hS=>?_) fun ec41 hS=>?_
 refine rg fun K k=>cps 1 h rfl fun a h=>s1 h rfl (v_fieldAddr rfl U33 rfl Z31 rfl rfl) fun a h=>s1 h rfl (l1 H 1 A31) fun a h=>?_
 obtain ⟨c42,hS⟩:=ck hS
 obtain ⟨z43,e43,hS⟩:=bv hS
 have q_44:=rp1.gel ⟨_,nodeEnc_dflt⟩ 0
 rw [←e43] at q_44
 obtain ⟨css_44,cl_44,rc_44,hc_44,q_44⟩:=q_44
 obtain ⟨v73_44_1,hcs_44,r73_44_1⟩:=node_op q_44
 refine st_idxC h U31 Z33 rfl rfl (rc_44.at H.zin) c42.1 (hc_44 c42) hcs_44 rfl fun a v73 A73 h=>?_
 refine s1 h rfl (v_loadAtA O17 rfl A73 A33 Z33 rfl rfl) fun a h=>?_
 obtain ⟨y45,f45,hS⟩:=bo hS
 refine st2 h rfl rfl rfl (dC call58 (hrec f45 H.zin r73_44_1 hr0 hp0 lp0 (H.hp.get 0 rfl) (H.offI 0 rfl _ rfl) rfl rfl (hGX _ H.outB))) ?_
 rintro v_ w ⟨rfl,hm_46,X⟩ a h
 obtain ⟨Z,hsub,hadd,H⟩:=H.lentB 0 rfl hm_46 X (hl':=O3) rfl
 have r73_44_1:=r73_44_1.sub hsub
 have rp1:=rp1.sub hsub
 have hp0:=hsub _ _ hp0
 have hr0:=hsub _ _ hr0
 have H:HZ B0 _ _ O3 _:=H
 refine zA h H V109 O6 (fun x=>[_,_,_,x]) fun a p47 w X H h=>?_
 refine zS h H 3 Z109 O6 O6 O4 fun w H=>?_
 refine cN k h [0,3,4,9] O4 fun h=>?_
 refine sq<|rg fun K k=>s1 h rfl (v_fieldAddr rfl U109 rfl Z26 rfl rfl) fun a h=>s1 h rfl (v_fieldAddr rfl U26 rfl Z3 rfl rfl) fun a h=>s1 h rfl (l1 H 3 A3) fun a h=>sB h hS rfl (v_eq rfl rfl) fun z49 e49 hS a h=>cz k<|cI h hS rfl (fun ec50 hS=>?_) fun ec50 hS=>?_
 refine rg fun K k=>s1 h rfl (lA H 3 A109 Z109 O6) fun a h=>zS h H 2 Z109 O6 O6 O4 fun w H=>?_
 refine cN k h [4] [_] fun h=>?_
 cases hS
 refine r1 hr h rfl (rvA H 2 A109 Z109 O6) ⟨rfl,H.hp.get 0 rfl,H.outB⟩
 refine c_skip<|cO h [0,3,4,9] O4 fun h=>?_
 refine rg fun K k=>cps 1 h rfl fun a h=>s1 h rfl (v_fieldAddr rfl U33 rfl Z31 rfl rfl) fun a h=>s1 h rfl (l1 H 1 A31) fun a h=>?_
 obtain ⟨c51,hS⟩:=ck hS
 obtain ⟨z52,e52,hS⟩:=bv hS
 have q_53:=rp1.gel ⟨_,nodeEnc_dflt⟩ 1
 rw [←e52] at q_53
 obtain ⟨css_53,cl_53,rc_53,hc_53,q_53⟩:=q_53
 obtain ⟨v84_53_1,hcs_53,r84_53_1⟩:=node_op q_53
 refine st_idxC h U31 Z33 rfl rfl (rc_53.at H.zin) c51.1 (hc_53 c51) hcs_53 rfl fun a v84 A84 h=>?_
 refine s1 h rfl (v_loadAtA O17 rfl A84 A33 Z33 rfl rfl) fun a h=>?_
 obtain ⟨y54,f54,hS⟩:=bo hS
 refine st2 h rfl rfl rfl (dC call58 (hrec f54 H.zin r84_53_1 hr0 hp0 lp0 (H.hp.get 0 rfl) (H.offI 0 rfl _ rfl) rfl rfl (hGX _ H.outB))) ?_
 rintro v_ w ⟨rfl,hm_55,X⟩ a h
 obtain ⟨Z,hsub,hadd,H⟩:=H.lentB 0 rfl hm_55 X (hl':=O4) rfl
 have r84_53_1:=r84_53_1.sub hsub
 have rp1:=rp1.sub hsub
 have hp0:=hsub _ _ hp0
 have hr0:=hsub _ _ hr0
 have H:HZ B0 _ _ O4 _:=H
 refine zA h H V109 O6 (fun x=>[_,_,_,_,x]) fun a p56 w X H h=>?_
 refine zS h H 4 Z109 O6 O6 O5 fun w H=>?_
 refine cN k h [0,3,4,9,10] O5 fun h=>?_
 refine sq<|rg fun K k=>s1 h rfl (v_fieldAddr rfl U109 rfl Z26 rfl rfl) fun a h=>s1 h rfl (v_fieldAddr rfl U26 rfl Z3 rfl rfl) fun a h=>s1 h rfl (l1 H 4 A3) fun a h=>sB h hS rfl (v_eq rfl rfl) fun z58 e58 hS a h=>cz k<|cI h hS rfl (fun ec59 hS=>?_) fun ec59 hS=>?_
 refine rg fun K k=>s1 h rfl (lA H 4 A109 Z109 O6) fun a h=>zS h H 2 Z109 O6 O6 O5 fun w H=>?_
 refine cN k h [4] [_] fun h=>?_
 cases hS
 refine r1 hr h rfl (rvA H 2 A109 Z109 O6) ⟨rfl,H.hp.get 0 rfl,H.outB⟩
 refine c_skip<|cO h [0,3,4,9,10] O5 fun h=>?_
 refine rg fun K k=>cps 1 h rfl fun a h=>s1 h rfl (v_fieldAddr rfl U33 rfl Z3 rfl rfl) fun a h=>s1 h rfl (l1 H 1 A3) fun a h=>s1 h rfl (v_fieldAddr rfl U109 rfl Z26 rfl rfl) fun a h=>s1 h rfl (lA H 3 A26 Z26 O3) fun a h=>s1 h rfl (v_fieldAddr rfl U109 rfl Z26 rfl rfl) fun a h=>s1 h rfl (lA H 4 A26 Z26 O3) fun a h=>sC h H hS rfl (fun y60 f60=>dC call88 (funcs_Binary_ok f60 (hGX _ H.outB) :)) fun y60 hS w X H a h=>?_
 obtain ⟨y61,f61,hS⟩:=bo hS
 refine st2v (T:=Ext) (V:=(gA y61)) h rfl rfl rfl (dC call85 (eval_run_made_ok f61 H.zin hr0 hp0 lp0)) fun w X a h=>?_
 have H:=H.ext X
 refine zS h H 2 Z109 O6 O6 O5 fun w H=>?_
 refine cN k h [4] [_] fun h=>?_
 cases hS
 refine r1 hr h rfl (rvA H 2 A109 Z109 O6) ⟨rfl,H.hp.get 0 rfl,H.outB⟩
 refine c_skip<|cO h [0,3,4] O3 fun h=>?_
 refine sq<|rg fun K k=>s1 h rfl (v_fieldAddr rfl U33 rfl Z3 rfl rfl) fun a h=>s1 h rfl (l1 H 1 A3) fun a h=>sB h hS rfl (v_le rfl rfl) fun z63 e63 hS a h=>cz k<|cI h hS rfl (fun ec64 hS=>?_) fun ec64 hS=>?_
 refine rg fun K k=>cps 1 h rfl fun a h=>s1 h rfl (lA H 1 A33 Z33 O17) fun a h=>?_
 obtain ⟨y65,f65,hS⟩:=bo hS
 refine st2 h rfl rfl rfl (dC call89 (eval_run_lazy_ok hrec f65 H.zin rp1 hr0 hp0 lp0 (H.hp.get 0 rfl) (H.offI 0 rfl _ rfl) rfl rfl (hGX _ H.outB))) ?_
 rintro v_ w ⟨rfl,hm_66,X⟩ a h
 obtain ⟨Z,hsub,hadd,H⟩:=H.lentB 0 rfl hm_66 X (hl':=O3) rfl
 have rp1:=rp1.sub hsub
 have hp0:=hsub _ _ hp0
 have hr0:=hsub _ _ hr0
 have H:HZ B0 _ _ O3 _:=H
 refine zS h H 2 Z109 O6 O6 O3 fun w H=>?_
 refine cN k h [4] [_] fun h=>?_
 cases hS
 refine r1 hr h rfl (rvA H 2 A109 Z109 O6) ⟨rfl,H.hp.get 0 rfl,H.outB⟩
 refine c_skip<|rg fun K k=>cps 1 h rfl fun a h=>s1 h rfl (lA H 1 A33 Z33 O17) fun a h=>?_
 obtain ⟨y67,f67,hS⟩:=bo hS
 refine st2 h rfl rfl rfl (dC call90 (eval_run_strict_ok hrec f67 H.zin rp1 hr0 hp0 lp0 (H.hp.get 0 rfl) (H.offI 0 rfl _ rfl) rfl rfl (hGX _ H.outB))) ?_
 rintro v_ w ⟨rfl,hm_68,X⟩ a h
 obtain ⟨Z,hsub,hadd,H⟩:=H.lentB 0 rfl hm_68 X (hl':=O3) rfl
 have rp1:=rp1.sub hsub
 have hp0:=hsub _ _ hp0
 have hr0:=hsub _ _ hr0
 have H:HZ B0 _ _ O3 _:=H
 refine zS h H 2 Z109 O6 O6 O3 fun w H=>?_
 refine cN k h [4] [_] fun h=>?_
 cases hS
 refine r1 hr h rfl (rvA H 2 A109 Z109 O6) ⟨rfl,H.hp.get 0 rfl,H.outB⟩
 refine rg fun K k=>sB h hS rfl (v_eq rfl rfl) fun z69 e69 hS a h=>cps 1 h rfl fun a h=>cz k<|cI h hS rfl (fun ec70 hS=>?_) fun ec70 hS=>?_
 exact c_skip (ex2 ⟨hS,h.to,H,rp1,hp0,hr0⟩)
 refine c_lregion<|sB h hS rfl (v_eq rfl rfl) fun z71 e71 hS a h=>cps 1 h rfl fun a h=>c_lnil ?_
 exact ex2 ⟨hS,h.to,H,rp1,hp0,hr0⟩
 refine rg fun K k=>sB h hS rfl (v_eq rfl rfl) fun z72 e72 hS a h=>cps 1 h rfl fun a h=>cN k h [0,3,4,12,19] O5 fun h=>?_
 refine cI h hS rfl (fun ec73 hS=>?_) fun ec73 hS=>?_
 exact c_skip (ex2 ⟨hS,h.to,H,rp1,hp0,hr0⟩)
 refine rg fun K k=>sB h hS rfl (v_eq rfl rfl) fun z74 e74 hS a h=>cps 1 h rfl fun a h=>cz k<|cI h hS rfl (fun ec75 hS=>?_) fun ec75 hS=>?_
 exact c_skip (ex2 ⟨hS,h.to,H,rp1,hp0,hr0⟩)
 refine c_lregion<|sB h hS rfl (v_eq rfl rfl) fun z76 e76 hS a h=>cps 1 h rfl fun a h=>c_lnil ?_
 exact ex2 ⟨hS,h.to,H,rp1,hp0,hr0⟩
theorem eval_run_eval_ok (k:Nat):∀ {x0:Rn} {x1:Nd} {m0:List (C × Bool)} {res:(Gt) × List (C × Bool)} {w0:World} (hS:eval_run_eval k x0 x1 m0=some res) {Z:FZ} (hZ:Z.inn w0) {xv1:Value} (rp1:RdN Z xv1 nodeEnc x1.l) {rb0 pb0 mb0:Nat} (hr0:Z rb0=some (Cel [.iface 35 (pt pb0),.int .i64 x0.c.s,.int .i64 x0.c.c,.int .i64 x0.c.r,.map (some mb0)] 107)) (hp0:Z pb0=some (Cel ((x0.p:List V).flatMap vL) 39)) (lp0:x0.p.length=128) (hm0:w0.heap[mb0]?=some (MObj cV Value.bool m0)) (om0:Z mb0=none) {B0:Bs} (eB:B0=⟨w0,[mb0]⟩) {Zi:FZ} (eZ:Zi=Z) (hG:GW w0),Calls Tryz.prog 58 [(pt rb0),(nA x1 xv1)].toArray w0 (Ret fun v w=>v=.agg #[.int .i64 res.1.v.k,.int .i64 res.1.v.n,S res.1.v.s,.int .i64 res.1.c.s,.int .i64 res.1.c.c,.int .i64 res.1.c.r]∧w.heap[mb0]?=some (MObj cV Value.bool res.2)∧ExtB B0 w):=by
 induction k with
 |zero=>intro x0 x1 m0 res w0 hS;exact nomatch (show (none:Option ((Gt) × List (C × Bool)))=some res from hS)
 |succ k ih=>exact @eval_run_eval_B_ok (eval_run_eval k) @ih
end Go.Proofs.YtcecjdnkcbfhlaaGreatDoor
