/- Joined texts. -/
import Derived.Test.YtcecjdnkcbfhlaaGreatDoorEM0
import Derived.Test.YtcecjdnkcbfhlaaGreatDoorEU0
import Derived.Test.YtcecjdnkcbfhlaaGreatDoorEWkR
set_option linter.unusedSimpArgs false
set_option linter.unusedVariables false
set_option linter.unusedSectionVars false
namespace Go.Proofs.YtcecjdnkcbfhlaaGreatDoor
open Go.Stp Go.RowKit Go.ValP Go.Sp _root_.Go.Proofs.Tryz
set_option maxRecDepth 100000
set_option maxHeartbeats 2000000
theorem reckonerlaw05_ref_ok {x0:Int} {x1:Int} {res:Rf} {w0:World} (hS:reckonerlaw05_ref x0 x1=some res):Calls Tryz.prog 47 [.int .i64 x0,.int .i64 x1].toArray w0 (Ret fun v w=>v=.agg #[.int .i64 res.c.s,.int .i64 res.c.c,.int .i64 res.c.r,.bool res.ac,.bool res.ar]∧Ext w0 w):=by
 refine en func47 [0,1] O2 fun Q a Zi Z hzs H h hr=>?_
 clear hzs
 unfold reckonerlaw05_ref at hS
 refine rg fun K k=>zA h H zeroValue30 O5 (fun x=>[x]) fun a p1 w X H h=>?_
 refine cz k<|rg fun K k=>cps 1 h rfl fun a h=>sI h hS rfl (v_bits_and rfl rfl) fun z2 e2 hS a h=>sB h hS rfl (v_eq rfl rfl) fun z3 e3 hS a h=>cps 1 h rfl fun a h=>sI h hS rfl (v_bits_and rfl rfl) fun z4 e4 hS a h=>sB h hS rfl (v_eq rfl rfl) fun z5 e5 hS a h=>cps 1 h rfl fun a h=>st_g h rfl rfl (gT rfl) rfl rfl (fun e0=>v_move rfl) fun a h=>?_
 obtain ⟨z6,e6,hS⟩:=bv hS
 refine st_g h rfl rfl (gT rfl) rfl rfl (fun e0=>vB e6 (v_eq (eg e0 rfl) rfl)) fun a h=>?_
 refine sB h hS rfl (v_and rfl rfl) fun z7 e7 hS a h=>s1 h rfl (v_build bld30 O2 O5 rfl rfl) fun a h=>zA h H zeroValue30 O5 (fun x=>[_,x]) fun a p8 w X H h=>?_
 refine zS h H 1 Z30 O5 O5 O2 fun w H=>?_
 refine cN k h [0,1,4,5] O4 fun h=>?_
 refine rg fun K k=>cps 1 h rfl fun a h=>sI h hS rfl (v_bits_and rfl rfl) fun z9 e9 hS a h=>cps 1 h rfl fun a h=>sI h hS rfl (v_quow rfl rfl (by decide)) fun z10 e10 hS a h=>sI h hS rfl (v_bits_and rfl rfl) fun z11 e11 hS a h=>s1 h rfl (v_fieldAddr rfl U30 rfl Z28 rfl rfl) fun a h=>s1 h rfl (v_fieldAddr rfl U28 rfl Z3 rfl rfl) fun a h=>zS h H 1 Z3 [_] O5 O2 fun w H=>?_
 refine s1 h rfl (v_fieldAddr rfl U30 rfl Z28 rfl rfl) fun a h=>s1 h rfl (v_fieldAddr rfl U28 rfl Z3 rfl rfl) fun a h=>zS h H 1 Z3 [_] O5 O2 fun w H=>?_
 refine cN k h [0,1,4,5] O4 fun h=>?_
 obtain ⟨J13,eJ13,hS⟩:=bv hS
 refine sqJ (fun a w=>∃ (Z:FZ) (s13:Int),J13 s13=some res∧Fr 35 [(4,(pt p1)),(5,(pt p8))] a∧HZ w0 Zi Z [.blk p1 (Cel [.int .i64 0,.int .i64 0,.int .i64 0,.bool false,.bool false] 30),.blk p8 (Cel [.int .i64 s13,.int .i64 z9,.int .i64 z11,.bool z3,.bool z7] 30)] w) ?_ ?_
 rintro a w ⟨Z,s13,hS,h,H⟩
 subst eJ13
 refine rg fun K k=>s1 h rfl (lA H 1 isAgg30 Z30 O5) fun a h=>zS h H 0 Z30 O5 O5 O2 fun w H=>?_
 refine cz k ?_
 cases hS
 refine r1 hr h rfl (rvA H 0 isAgg30 Z30 O5) ⟨rfl,H.out⟩
 refine rg fun K k=>cps 1 h rfl fun a h=>sB h hS rfl (v_eq rfl rfl) fun z14 e14 hS a h=>cps 1 h rfl fun a h=>st_g h rfl rfl (gT rfl) rfl rfl (fun e0=>v_move rfl) fun a h=>?_
 obtain ⟨z15,e15,hS⟩:=bv hS
 refine st_g h rfl rfl (gT rfl) rfl rfl (fun e0=>vB e15 (v_gt (eg e0 rfl) rfl)) fun a h=>?_
 refine sB h hS rfl (v_and rfl rfl) fun z16 e16 hS a h=>cN k h [4,5,31] O3 fun h=>?_
 refine cI h hS rfl (fun ec17 hS=>?_) fun ec17 hS=>?_
 refine c_lregion<|s1 h rfl (v_fieldAddr rfl U30 rfl Z28 rfl rfl) fun a h=>s1 h rfl (v_fieldAddr rfl U28 rfl Z3 rfl rfl) fun a h=>zS h H 1 Z3 [_] O5 O2 fun w H=>?_
 refine c_lnil ?_
 exact ex2 ⟨hS,h.to,H⟩
 exact c_skip (ex2 ⟨hS,h.to,H⟩)
theorem reckonerlaw05_Seed_Formula_B_ok {rec:(List Int)→Int→Option ((Nd) × (List Int))} (hrec:∀ {x0:List Int} {x1:Int} {res:(Nd) × (List Int)} {w0:World} (hS:rec x0 x1=some res) {Z:FZ} (hZ:Z.inn w0) {sp0:Nat} {sv0:Value} (rs0:RdZ Z sv0 1 (eI .u8) x0) (hm0:w0.heap[sp0]?=some (Cel [sv0] 23)) (om0:Z sp0=none) {B0:Bs} (eB:B0=⟨w0,[sp0]⟩) {Zi:FZ} (eZ:Zi=Z) (hG:GW w0),Calls Tryz.prog 13 [(pt sp0),.int .i64 x1].toArray w0 (Ret fun v w=>∃ u1,v=.agg #[.int .i64 res.1.k,.int .i64 res.1.op,.int .i64 res.1.v.k,.int .i64 res.1.v.n,S res.1.v.s,.int .i64 res.1.a.c.s,.int .i64 res.1.a.c.c,.int .i64 res.1.a.c.r,.bool res.1.a.ac,.bool res.1.a.ar,.int .i64 res.1.b.c.s,.int .i64 res.1.b.c.c,.int .i64 res.1.b.c.r,.bool res.1.b.ac,.bool res.1.b.ar,S res.1.nm,u1]∧RdN (ZB Zi w0.heap.size w) u1 nodeEnc res.1.l∧(∃ sv',w.heap[sp0]?=some (Cel [sv'] 23)∧RdZ (ZB Zi w0.heap.size w) sv' 1 (eI .u8) res.2)∧ExtB B0 w)) {x0:List Int} {x1:Int} {res:(Nd) × (List Int)} {w0:World} (hS:reckonerlaw05_Seed_Formula_B rec x0 x1=some res) {Z:FZ} (hZ:Z.inn w0) {sp0:Nat} {sv0:Value} (rs0:RdZ Z sv0 1 (eI .u8) x0) (hm0:w0.heap[sp0]?=some (Cel [sv0] 23)) (om0:Z sp0=none) {B0:Bs} (eB:B0=⟨w0,[sp0]⟩) {Zi:FZ} (eZ:Zi=Z) (hG:GW w0):Calls Tryz.prog 13 [(pt sp0),.int .i64 x1].toArray w0 (Ret fun v w=>∃ u1,v=.agg #[.int .i64 res.1.k,.int .i64 res.1.op,.int .i64 res.1.v.k,.int .i64 res.1.v.n,S res.1.v.s,.int .i64 res.1.a.c.s,.int .i64 res.1.a.c.c,.int .i64 res.1.a.c.r,.bool res.1.a.ac,.bool res.1.a.ar,.int .i64 res.1.b.c.s,.int .i64 res.1.b.c.c,.int .i64 res.1.b.c.r,.bool res.1.b.ac,.bool res.1.b.ar,S res.1.nm,u1]∧RdN (ZB Zi w0.heap.size w) u1 nodeEnc res.1.l∧(∃ sv',w.heap[sp0]?=some (Cel [sv'] 23)∧RdZ (ZB Zi w0.heap.size w) sv' 1 (eI .u8) res.2)∧ExtB B0 w):=by
 have H:HZ B0 Zi Z [.blk sp0 (Cel [sv0] 23)] w0:=by rw [eB,eZ];exact HZ.startLM hZ hm0 om0
 refine enG func13 [0,1] O2 fun Q a h hr hn=>?_
 have hGX:∀ w,ExtB B0 w→GW w:=fun w X=>hG.extS rs0.form hm0 eB X
 clear eZ
 have H:HZ B0 _ _ [_] _:=H
 unfold reckonerlaw05_Seed_Formula_B at hS
 refine rg fun K k=>zA h H V33 O17 (fun x=>[_,x]) fun a p1 w X H h=>?_
 refine cz k<|rg fun K k=>cps 1 h rfl fun a h=>cz k ?_
 obtain ⟨J3,eJ3,hS⟩:=bv hS
 refine sqJ (fun a w=>∃ (Z:FZ) (s3:Int × (List (Int))) (v0_0_4:Value),J3 s3=some res∧Fr 177 [(0,(pt sp0)),(1,.int .i64 x1),(4,(pt p1)),(5,.int .i64 s3.1)] a∧HZ B0 Zi Z [.blk sp0 (Cel [v0_0_4] 23),.blk p1 (Cel [.int .i64 0,.int .i64 0,.int .i64 0,.int .i64 0,S [],.int .i64 0,.int .i64 0,.int .i64 0,.bool false,.bool false,.int .i64 0,.int .i64 0,.int .i64 0,.bool false,.bool false,S [],.slice none 0 0] 33)] w∧RdZ Z v0_0_4 1 (eI .u8) s3.2) ?_ ?_
 rintro a w ⟨Z,s3,v0_0_4,hS,h,H,r0_0_4⟩
 subst eJ3
 refine rg fun K k=>cps 1 h rfl fun a h=>sI h hS rfl (v_rem rfl rfl (by decide)) fun z5 e5 hS a h=>cps 1 h rfl fun a h=>cz k ?_
 obtain ⟨J7,eJ7,hS⟩:=bv hS
 refine sqJ (fun a w=>∃ (Z:FZ) (s7:Int),J7 s7=some res∧Fr 177 [(0,(pt sp0)),(1,.int .i64 x1),(4,(pt p1)),(5,.int .i64 s3.1),(6,.int .i64 s7)] a∧HZ B0 Zi Z [.blk sp0 (Cel [v0_0_4] 23),.blk p1 (Cel [.int .i64 0,.int .i64 0,.int .i64 0,.int .i64 0,S [],.int .i64 0,.int .i64 0,.int .i64 0,.bool false,.bool false,.int .i64 0,.int .i64 0,.int .i64 0,.bool false,.bool false,S [],.slice none 0 0] 33)] w∧RdZ Z v0_0_4 1 (eI .u8) s3.2) ?_ ?_
 rintro a w ⟨Z,s7,hS,h,H,r0_0_4⟩
 subst eJ7
 refine sb ?_
 refine rg fun K k=>cps 1 h rfl fun a h=>sB h hS rfl (v_lt rfl rfl) fun z9 e9 hS a h=>cps 1 h rfl fun a h=>cz k<|cI h hS rfl (fun ec10 hS=>?_) fun ec10 hS=>?_
 refine rg fun K k=>cps 1 h rfl fun a h=>sI h hS rfl (v_quow rfl rfl (by decide)) fun z11 e11 hS a h=>sI h hS rfl (v_mulw rfl rfl) fun z12 e12 hS a h=>sC h H hS rfl (fun y13 f13=>dC call14 (value_Num_ok f13 :)) fun y13 hS w X H a h=>?_
 obtain ⟨y14,f14,hS⟩:=bo hS
 refine st2 h rfl rfl rfl (dC call32 (tree_Value_ok (x0:=y13) f14)) ?_
 rintro v_ w ⟨v49_15_1,rfl,r49_15_1,X⟩ a h
 obtain ⟨Z,hsub,hadd,H⟩:=H.adopt' X
 have r0_0_4:=r0_0_4.sub hsub
 have r49_15_1:=r49_15_1.sub (ZB.empty.trans hadd)
 refine z_store h H 1 rfl rfl rfl Z33 O17 rfl rfl (by obtain ⟨_,_,_,e_⟩:=(r49_15_1).form;subst e_;rfl) (by simp) O17 rfl (hl':=O2) rfl fun w H=>?_
 refine cN k h [4] [_] fun h=>?_
 cases hS
 refine r1 hr h rfl (rvA H 1 A33 Z33 O17) ⟨_,rfl,r49_15_1.sub (H.backO eB 0 rfl),⟨_,H.hp.get 0 rfl,r0_0_4.sub (H.backO eB 0 rfl)⟩,H.outB⟩
 refine rg fun K k=>cps 1 h rfl fun a h=>sB h hS rfl (v_eq rfl rfl) fun z16 e16 hS a h=>cps 1 h rfl fun a h=>cN k h [0,1,4,5,6,50] O6 fun h=>?_
 refine cI h hS rfl (fun ec17 hS=>?_) fun ec17 hS=>?_
 refine rg fun K k=>sC h H hS rfl (fun y18 f18=>dC call28 (value_Text_ok f18 :)) fun y18 hS w X H a h=>?_
 obtain ⟨y19,f19,hS⟩:=bo hS
 refine st2 h rfl rfl rfl (dC call32 (tree_Value_ok (x0:=y18) f19)) ?_
 rintro v_ w ⟨v54_20_1,rfl,r54_20_1,X⟩ a h
 obtain ⟨Z,hsub,hadd,H⟩:=H.adopt' X
 have r0_0_4:=r0_0_4.sub hsub
 have r54_20_1:=r54_20_1.sub (ZB.empty.trans hadd)
 refine cps 1 h rfl fun a h=>sI h hS rfl (v_bits_and rfl rfl) fun z21 e21 hS a h=>sB h hS rfl (v_eq rfl rfl) fun z22 e22 hS a h=>sC h H hS rfl (fun y23 f23=>dC call24 (value_Bool_ok f23 :)) fun y23 hS w X H a h=>?_
 obtain ⟨y24,f24,hS⟩:=bo hS
 refine st2 h rfl rfl rfl (dC call32 (tree_Value_ok (x0:=y23) f24)) ?_
 rintro v_ w ⟨v59_25_1,rfl,r59_25_1,X⟩ a h
 obtain ⟨Z,hsub,hadd,H⟩:=H.adopt' X
 have r0_0_4:=r0_0_4.sub hsub
 have r54_20_1:=r54_20_1.sub hsub
 have r59_25_1:=r59_25_1.sub (ZB.empty.trans hadd)
 refine cps 1 h rfl fun a h=>sI h hS rfl (v_quow rfl rfl (by decide)) fun z26 e26 hS a h=>sI h hS rfl (v_rem rfl rfl (by decide)) fun z27 e27 hS a h=>sI h hS rfl (v_addw rfl rfl) fun z28 e28 hS a h=>sC h H hS rfl (fun y29 f29=>dC call21 (value_Fail_ok f29 :)) fun y29 hS w X H a h=>?_
 obtain ⟨y30,f30,hS⟩:=bo hS
 refine st2 h rfl rfl rfl (dC call32 (tree_Value_ok (x0:=y29) f30)) ?_
 rintro v_ w ⟨v65_31_1,rfl,r65_31_1,X⟩ a h
 obtain ⟨Z,hsub,hadd,H⟩:=H.adopt' X
 have r0_0_4:=r0_0_4.sub hsub
 have r54_20_1:=r54_20_1.sub hsub
 have r59_25_1:=r59_25_1.sub hsub
 have r65_31_1:=r65_31_1.sub (ZB.empty.trans hadd)
 refine s1 h rfl (v_build bld26 [] O3 rfl rfl) fun a h=>?_
 obtain ⟨y32,f32,hS⟩:=bo hS
 refine st2 h rfl rfl rfl (dC call32 (tree_Value_ok (x0:=(⟨0,0,[]⟩:V)) f32)) ?_
 rintro v_ w ⟨v67_33_1,rfl,r67_33_1,X⟩ a h
 obtain ⟨Z,hsub,hadd,H⟩:=H.adopt' X
 have r0_0_4:=r0_0_4.sub hsub
 have r54_20_1:=r54_20_1.sub hsub
 have r59_25_1:=r59_25_1.sub hsub
 have r65_31_1:=r65_31_1.sub hsub
 have r67_33_1:=r67_33_1.sub (ZB.empty.trans hadd)
 refine z_slice (enc:=(Subtype.val (p:=fun l:List Value=>l.length=17))) ([⟨(nL y19 v54_20_1),rfl⟩,⟨(nL y24 v59_25_1),rfl⟩,⟨(nL y30 v65_31_1),rfl⟩,⟨(nL y32 v67_33_1),rfl⟩]:List (Cl 17)) h H U31 Z33 V33 rfl (zl:=[.int .i64 0,.int .i64 0,.int .i64 0,.int .i64 0,S [],.int .i64 0,.int .i64 0,.int .i64 0,.bool false,.bool false,.int .i64 0,.int .i64 0,.int .i64 0,.bool false,.bool false,S [],.slice none 0 0,.int .i64 0,.int .i64 0,.int .i64 0,.int .i64 0,S [],.int .i64 0,.int .i64 0,.int .i64 0,.bool false,.bool false,.int .i64 0,.int .i64 0,.int .i64 0,.bool false,.bool false,S [],.slice none 0 0,.int .i64 0,.int .i64 0,.int .i64 0,.int .i64 0,S [],.int .i64 0,.int .i64 0,.int .i64 0,.bool false,.bool false,.int .i64 0,.int .i64 0,.int .i64 0,.bool false,.bool false,S [],.slice none 0 0,.int .i64 0,.int .i64 0,.int .i64 0,.int .i64 0,S [],.int .i64 0,.int .i64 0,.int .i64 0,.bool false,.bool false,.int .i64 0,.int .i64 0,.int .i64 0,.bool false,.bool false,S [],.slice none 0 0]) kR (plA_get 4 17) O4 O68 rfl rfl rfl rfl rfl fun a v68_34 Z w hsub X H r68_34 h=>?_
 have r0_0_4:=r0_0_4.sub hsub
 have r54_20_1:=r54_20_1.sub hsub
 have r59_25_1:=r59_25_1.sub hsub
 have r65_31_1:=r65_31_1.sub hsub
 have r67_33_1:=r67_33_1.sub hsub
 have r68_34:RdN Z v68_34 nodeEnc [y19,y24,y30,y32]:=⟨_,r68_34,⟨node_mk ⟨_,rfl,r54_20_1⟩,node_mk ⟨_,rfl,r59_25_1⟩,node_mk ⟨_,rfl,r65_31_1⟩,node_mk ⟨_,rfl,r67_33_1⟩,trivial⟩⟩
 refine cps 1 h rfl fun a h=>sI h hS rfl (v_quow rfl rfl (by decide)) fun z35 e35 hS a h=>?_
 obtain ⟨c36,hS⟩:=ck hS
 obtain ⟨z37,e37,hS⟩:=bv hS
 have q_38:=r68_34.gel ⟨_,nodeEnc_dflt⟩ z35
 rw [←e37] at q_38
 obtain ⟨css_38,cl_38,rc_38,hc_38,q_38⟩:=q_38
 obtain ⟨v71_38_1,hcs_38,r71_38_1⟩:=node_op q_38
 refine st_idxC h U31 Z33 rfl rfl (rc_38.at H.zin) c36.1 (hc_38 c36) hcs_38 rfl fun a v71 A71 h=>?_
 refine s1 h rfl (v_loadAtA O17 rfl A71 A33 Z33 rfl rfl) fun a h=>z_store h H 1 rfl rfl rfl Z33 O17 rfl rfl (by obtain ⟨_,_,_,e_⟩:=(r71_38_1).form;subst e_;rfl) (by simp) O17 rfl (hl':=O2) rfl fun w H=>?_
 refine cN k h [4] [_] fun h=>?_
 cases hS
 refine r1 hr h rfl (rvA H 1 A33 Z33 O17) ⟨_,rfl,r71_38_1.sub (H.backO eB 0 rfl),⟨_,H.hp.get 0 rfl,r0_0_4.sub (H.backO eB 0 rfl)⟩,H.outB⟩
 refine rg fun K k=>cps 1 h rfl fun a h=>sB h hS rfl (v_lt rfl rfl) fun z39 e39 hS a h=>cps 1 h rfl fun a h=>cz k<|cI h hS rfl (fun ec40 hS=>?_) fun ec40 hS=>?_
 refine rg fun K k=>cps 1 h rfl fun a h=>sI h hS rfl (v_quow rfl rfl (by decide)) fun z41 e41 hS a h=>cps 1 h rfl fun a h=>sC h H hS rfl (fun y42 f42=>dC call47 (reckonerlaw05_ref_ok f42 :)) fun y42 hS w X H a h=>?_
 obtain ⟨y43,f43,hS⟩:=bo hS
 refine st2 h rfl rfl rfl (dC call25 (tree_Cell_ok (x0:=y42) f43)) ?_
 rintro v_ w ⟨v80_44_1,rfl,r80_44_1,X⟩ a h
 obtain ⟨Z,hsub,hadd,H⟩:=H.adopt' X
 have r0_0_4:=r0_0_4.sub hsub
 have r80_44_1:=r80_44_1.sub (ZB.empty.trans hadd)
 refine z_store h H 1 rfl rfl rfl Z33 O17 rfl rfl (by obtain ⟨_,_,_,e_⟩:=(r80_44_1).form;subst e_;rfl) (by simp) O17 rfl (hl':=O2) rfl fun w H=>?_
 refine cN k h [4] [_] fun h=>?_
 cases hS
 refine r1 hr h rfl (rvA H 1 A33 Z33 O17) ⟨_,rfl,r80_44_1.sub (H.backO eB 0 rfl),⟨_,H.hp.get 0 rfl,r0_0_4.sub (H.backO eB 0 rfl)⟩,H.outB⟩
 refine rg fun K k=>cps 1 h rfl fun a h=>sB h hS rfl (v_eq rfl rfl) fun z45 e45 hS a h=>cps 1 h rfl fun a h=>cN k h [0,1,4,5,6,81] O6 fun h=>?_
 refine cI h hS rfl (fun ec46 hS=>?_) fun ec46 hS=>?_
 refine rg fun K k=>cps 1 h rfl fun a h=>sI h hS rfl (v_quow rfl rfl (by decide)) fun z47 e47 hS a h=>sC h H hS rfl (fun y48 f48=>dC call47 (reckonerlaw05_ref_ok f48 :)) fun y48 hS w X H a h=>?_
 refine zA h H zeroValue30 O5 (fun x=>[_,_,x]) fun a p49 w X H h=>?_
 refine zS h H 2 Z30 O5 O5 O3 fun w H=>?_
 refine cN k h [4,5,7] O3 fun h=>?_
 refine rg fun K k=>s1 h rfl (lA H 2 isAgg30 Z30 O5) fun a h=>zA h H zeroValue30 O5 (fun x=>[_,_,_,x]) fun a p50 w X H h=>?_
 refine zS h H 3 Z30 O5 O5 O4 fun w H=>?_
 refine cz k<|lt [3] h H ?_
 refine L1 rfl (fun w X=>v_fieldAddr rfl U30 rfl Z28 rfl rfl) ?_
 refine L1 rfl (fun w X=>v_fieldAddr rfl U28 rfl Z3 rfl rfl) ?_
 refine L1 rfl (fun w X=>have H:=X;l1 H 2 A3) ?_
 refine lcps 1 rfl ?_
 refine lI hS rfl (fun w X=>v_bits_and rfl rfl) fun z51 e51 hS=>?_
 refine lI hS rfl (fun w X=>v_addw rfl rfl) fun z52 e52 hS=>?_
 refine L1 rfl (fun w X=>v_fieldAddr rfl U30 rfl Z28 rfl rfl) ?_
 refine L1 rfl (fun w X=>v_fieldAddr rfl U28 rfl Z3 rfl rfl) ?_
 refine L1 rfl (fun w X=>have H:=X;l1 H 2 A3) ?_
 refine lcps 1 rfl ?_
 refine lI hS rfl (fun w X=>v_quow rfl rfl (by decide)) fun z53 e53 hS=>?_
 refine lI hS rfl (fun w X=>v_rem rfl rfl (by decide)) fun z54 e54 hS=>?_
 refine lI hS rfl (fun w X=>v_addw rfl rfl) fun z55 e55 hS=>?_
 refine L1 rfl (fun w X=>v_fieldAddr rfl U30 rfl Z28 rfl rfl) ?_
 refine L1 rfl (fun w X=>v_fieldAddr rfl U28 rfl Z3 rfl rfl) ?_
 refine LZ 3 Z3 [_] O5 O4 ?_
 refine L1 rfl (fun w X=>v_fieldAddr rfl U30 rfl Z28 rfl rfl) ?_
 refine L1 rfl (fun w X=>v_fieldAddr rfl U28 rfl Z3 rfl rfl) ?_
 refine LZ 3 Z3 [_] O5 O4 ?_
 refine lE [4,7,8] O3 fun a w H h=>?_
 have H:HZ B0 _ _ O4 _:=H
 refine rg fun K k=>s1 h rfl (lA H 2 isAgg30 Z30 O5) fun a h=>s1 h rfl (lA H 3 isAgg30 Z30 O5) fun a h=>?_
 obtain ⟨y56,f56,hS⟩:=bo hS
 refine st2 h rfl rfl rfl (dC call35 (tree_Span_ok (x0:=y48) (x1:=(⟨(⟨y48.c.s,z52,z55⟩:C),y48.ac,y48.ar⟩:Rf)) f56)) ?_
 rintro v_ w ⟨v107_57_1,rfl,r107_57_1,X⟩ a h
 obtain ⟨Z,hsub,hadd,H⟩:=H.adopt' X
 have r0_0_4:=r0_0_4.sub hsub
 have r107_57_1:=r107_57_1.sub (ZB.empty.trans hadd)
 refine z_store h H 1 rfl rfl rfl Z33 O17 rfl rfl (by obtain ⟨_,_,_,e_⟩:=(r107_57_1).form;subst e_;rfl) (by simp) O17 rfl (hl':=O4) rfl fun w H=>?_
 refine cN k h [4] [_] fun h=>?_
 cases hS
 refine r1 hr h rfl (rvA H 1 A33 Z33 O17) ⟨_,rfl,r107_57_1.sub (H.backO eB 0 rfl),⟨_,H.hp.get 0 rfl,r0_0_4.sub (H.backO eB 0 rfl)⟩,H.outB⟩
 refine rg fun K k=>cps 1 h rfl fun a h=>sB h hS rfl (v_eq rfl rfl) fun z58 e58 hS a h=>cps 1 h rfl fun a h=>cz k<|cI h hS rfl (fun ec59 hS=>?_) fun ec59 hS=>?_
 refine rg fun K k=>cps 2 h rfl fun a h=>sI h hS rfl (v_subw rfl rfl) fun z60 e60 hS a h=>?_
 obtain ⟨y61,f61,hS⟩:=bo hS
 refine st2 h rfl rfl rfl (dC call13 (hrec f61 H.zin r0_0_4 (H.hp.get 0 rfl) (H.offI 0 rfl _ rfl) rfl rfl (hGX _ H.outB))) ?_
 rintro v_ w ⟨v114_62_1,rfl,r114_62_1,⟨sv_62,hm_62,rs_62⟩,X⟩ a h
 obtain ⟨Z,hsub,hadd,H⟩:=H.lentB 0 rfl hm_62 X (hl':=O2) rfl
 have r114_62_1:=r114_62_1.sub hadd
 have rs_62:=rs_62.sub hadd
 have H:HZ B0 _ _ O2 _:=H
 obtain ⟨y63,f63,hS⟩:=bo hS
 refine st2 h rfl rfl rfl (dC call48 (tree_Unary_ok (x0:=(5:Int)) (x1:=y61.1) f63 H.zin r114_62_1)) ?_
 rintro v_ w ⟨v115_64_1,rfl,r115_64_1,X⟩ a h
 obtain ⟨Z,hsub,hadd,H⟩:=H.adopt' X
 have r114_62_1:=r114_62_1.sub hsub
 have rs_62:=rs_62.sub hsub
 have r115_64_1:=r115_64_1.sub hadd
 refine z_store h H 1 rfl rfl rfl Z33 O17 rfl rfl (by obtain ⟨_,_,_,e_⟩:=(r115_64_1).form;subst e_;rfl) (by simp) O17 rfl (hl':=O2) rfl fun w H=>?_
 refine cN k h [4] [_] fun h=>?_
 cases hS
 refine r1 hr h rfl (rvA H 1 A33 Z33 O17) ⟨_,rfl,r115_64_1.sub (H.backO eB 0 rfl),⟨_,H.hp.get 0 rfl,rs_62.sub (H.backO eB 0 rfl)⟩,H.outB⟩
 refine rg fun K k=>cps 1 h rfl fun a h=>sB h hS rfl (v_eq rfl rfl) fun z65 e65 hS a h=>cps 1 h rfl fun a h=>cN k h [0,1,4,5,6,116] O6 fun h=>?_
 refine cI h hS rfl (fun ec66 hS=>?_) fun ec66 hS=>?_
 refine rg fun K k=>cps 2 h rfl fun a h=>sI h hS rfl (v_subw rfl rfl) fun z67 e67 hS a h=>?_
 obtain ⟨y68,f68,hS⟩:=bo hS
 refine st2 h rfl rfl rfl (dC call13 (hrec f68 H.zin r0_0_4 (H.hp.get 0 rfl) (H.offI 0 rfl _ rfl) rfl rfl (hGX _ H.outB))) ?_
 rintro v_ w ⟨v122_69_1,rfl,r122_69_1,⟨sv_69,hm_69,rs_69⟩,X⟩ a h
 obtain ⟨Z,hsub,hadd,H⟩:=H.lentB 0 rfl hm_69 X (hl':=O2) rfl
 have r122_69_1:=r122_69_1.sub hadd
 have rs_69:=rs_69.sub hadd
 have H:HZ B0 _ _ O2 _:=H
 obtain ⟨y70,f70,hS⟩:=bo hS
 refine st2 h rfl rfl rfl (dC call48 (tree_Unary_ok (x0:=(6:Int)) (x1:=y68.1) f70 H.zin r122_69_1)) ?_
 rintro v_ w ⟨v123_71_1,rfl,r123_71_1,X⟩ a h
 obtain ⟨Z,hsub,hadd,H⟩:=H.adopt' X
 have r122_69_1:=r122_69_1.sub hsub
 have rs_69:=rs_69.sub hsub
 have r123_71_1:=r123_71_1.sub hadd
 refine z_store h H 1 rfl rfl rfl Z33 O17 rfl rfl (by obtain ⟨_,_,_,e_⟩:=(r123_71_1).form;subst e_;rfl) (by simp) O17 rfl (hl':=O2) rfl fun w H=>?_
 refine cN k h [4] [_] fun h=>?_
 cases hS
 refine r1 hr h rfl (rvA H 1 A33 Z33 O17) ⟨_,rfl,r123_71_1.sub (H.backO eB 0 rfl),⟨_,H.hp.get 0 rfl,rs_69.sub (H.backO eB 0 rfl)⟩,H.outB⟩
 refine rg fun K k=>cps 1 h rfl fun a h=>sB h hS rfl (v_lt rfl rfl) fun z72 e72 hS a h=>cps 1 h rfl fun a h=>cN k h [0,1,4,5,124] O5 fun h=>?_
 refine cI h hS rfl (fun ec73 hS=>?_) fun ec73 hS=>?_
 refine rg fun K k=>cps 2 h rfl fun a h=>sI h hS rfl (v_subw rfl rfl) fun z74 e74 hS a h=>?_
 obtain ⟨y75,f75,hS⟩:=bo hS
 refine st2 h rfl rfl rfl (dC call13 (hrec f75 H.zin r0_0_4 (H.hp.get 0 rfl) (H.offI 0 rfl _ rfl) rfl rfl (hGX _ H.outB))) ?_
 rintro v_ w ⟨v130_76_1,rfl,r130_76_1,⟨sv_76,hm_76,rs_76⟩,X⟩ a h
 obtain ⟨Z,hsub,hadd,H⟩:=H.lentB 0 rfl hm_76 X (hl':=O2) rfl
 have r130_76_1:=r130_76_1.sub hadd
 have rs_76:=rs_76.sub hadd
 have H:HZ B0 _ _ O2 _:=H
 refine zA h H V33 O17 (fun x=>[_,_,x]) fun a p77 w X H h=>?_
 refine z_store h H 2 rfl rfl rfl Z33 O17 rfl rfl (by obtain ⟨_,_,_,e_⟩:=(r130_76_1).form;subst e_;rfl) (by simp) O17 rfl (hl':=O3) rfl fun w H=>?_
 refine cN k h [0,1,4,5,9] O5 fun h=>?_
 refine sq_anyC 0 8 H (fun K k w H=>?_)
 refine aC_hoist 0 [1,2,8,9] h rfl (fun w H=>v_move rfl) kR rfl (fun a h=>?_)
 obtain ⟨z78,e78,hS⟩:=bv hS
 refine aC_hoist 1 [2,8,9] h rfl (fun w H=>vI e78 (v_rem rfl rfl (by decide))) kR rfl (fun a h=>?_)
 obtain ⟨z79,e79,hS⟩:=bv hS
 refine aC_hoist 2 [8,9] h rfl (fun w H=>vI e79 (v_addw rfl rfl)) kR rfl (fun a h=>?_)
 refine aC_hoist 3 [8,9] h rfl (fun w H=>lA H 2 A33 Z33 O17) kR rfl (fun a h=>?_)
 refine aC_hoist 4 [7,8,9] h rfl (fun w H=>v_move rfl) kR rfl (fun a h=>?_)
 refine aC_hoist 5 [6,7,8,9] h rfl (fun w H=>v_move rfl) kR rfl (fun a h=>?_)
 obtain ⟨z80,e80,hS⟩:=bv hS
 refine aC_hoist 6 [7,8,9] h rfl (fun w H=>vI e80 (v_subw rfl rfl)) kR rfl (fun a h=>?_)
 obtain ⟨y81,f81,hS⟩:=bo hS
 have zs_:=H.sub
 refine aC_op 7 h rfl kR (fun _=>H.dead1 0) (Does.goes h (dC call13 (hrec f81 H.zin rs_76 (H.hp.get 0 rfl) (H.offI 0 rfl _ rfl) rfl rfl (hGX _ H.outB)))) rfl ?_
 rintro v_ w a ⟨v138_82_1,rfl,r138_82_1,⟨sv_82,hm_82,rs_82⟩,X⟩ h
 obtain ⟨Z,hsub,hadd,H⟩:=H.lentB 0 rfl hm_82 X (hl':=O3) rfl
 have hsq:=hsub
 have r130_76_1:=r130_76_1.sub hsub
 have r138_82_1:=r138_82_1.sub hadd
 have rs_82:=rs_82.sub hadd
 have H:HZ B0 _ _ O3 _:=H
 obtain ⟨y83,f83,hS⟩:=bo hS
 refine aC_op 8 h rfl kR (fun _=>(H.weak hsq zs_).dead1 0) (Does.goes h (dC call36 (tree_Binary_ok (x0:=z79) (x1:=y75.1) (x2:=y81.1) f83 H.zin r130_76_1 r138_82_1))) rfl ?_
 rintro v_ w a ⟨v139_84_1,rfl,r139_84_1,X⟩ h
 obtain ⟨Z,hsub,hadd,H⟩:=H.adopt' X
 have r130_76_1:=r130_76_1.sub hsub
 have r138_82_1:=r138_82_1.sub hsub
 have rs_82:=rs_82.sub hsub
 have r139_84_1:=r139_84_1.sub hadd
 refine aC_st 9 h rfl kR (fun hq=>nomatch hq) (goes_of_list (ops:=#[]) (z_store h H 1 rfl rfl rfl Z33 O17 rfl rfl (by obtain ⟨_,_,_,e_⟩:=(r139_84_1).form;subst e_;rfl) (by simp) O17 rfl (hl':=O3) rfl fun w H=>rb_nil ⟨rfl,H⟩)) rfl ?_
 rintro _ w a H h
 have H:HZ B0 _ _ O3 _:=H
 refine aC_end (fun hq=>nomatch hq) kR (k _ _ ?_)
 cases hS
 refine r1 hr h rfl (rvA H 1 A33 Z33 O17) ⟨_,rfl,r139_84_1.sub (H.backO eB 0 rfl),⟨_,H.hp.get 0 rfl,rs_82.sub (H.backO eB 0 rfl)⟩,H.outB⟩
 refine c_skip<|rg fun K k=>cps 1 h rfl fun a h=>sI h hS rfl (v_quow rfl rfl (by decide)) fun z85 e85 hS a h=>sI h hS rfl (v_rem rfl rfl (by decide)) fun z86 e86 hS a h=>sI h hS rfl (v_addw rfl rfl) fun z87 e87 hS a h=>cps 1 h rfl fun a h=>cN k h [0,1,4,10] O4 fun h=>?_
 obtain ⟨J89,eJ89,hS⟩:=bv hS
 refine sqJ (fun a w=>∃ (Z:FZ) (s89:Int),J89 s89=some res∧Fr 177 [(0,(pt sp0)),(1,.int .i64 x1),(4,(pt p1)),(10,.int .i64 s89)] a∧HZ B0 Zi Z [.blk sp0 (Cel [v0_0_4] 23),.blk p1 (Cel [.int .i64 0,.int .i64 0,.int .i64 0,.int .i64 0,S [],.int .i64 0,.int .i64 0,.int .i64 0,.bool false,.bool false,.int .i64 0,.int .i64 0,.int .i64 0,.bool false,.bool false,S [],.slice none 0 0] 33)] w∧RdZ Z v0_0_4 1 (eI .u8) s3.2) ?_ ?_
 rintro a w ⟨Z,s89,hS,h,H,r0_0_4⟩
 subst eJ89
 refine rg fun K k=>cps 1 h rfl fun a h=>cz k ?_
 have H:=H.nilRow 33 17 rfl
 have H:HZ B0 _ _ O3 _:=H
 have el2:EL nodeEnc Z ([]:List (Cl 17)) ([]:List (Nd)):=trivial
 obtain ⟨J91,eJ91,hS⟩:=bv hS
 refine sbJ (fun a w=>∃ (Z:FZ) (s91:(List (Int)) × (List (Nd))) (v0_0_92:Value) (sv93:Value) (cs93:List (Cl 17)),J91 s91=some res∧Fr 177 [(4,(pt p1)),(10,.int .i64 s89),(11,sv93)] a∧HZ B0 Zi Z [.blk sp0 (Cel [v0_0_92] 23),.blk p1 (Cel [.int .i64 0,.int .i64 0,.int .i64 0,.int .i64 0,S [],.int .i64 0,.int .i64 0,.int .i64 0,.bool false,.bool false,.int .i64 0,.int .i64 0,.int .i64 0,.bool false,.bool false,S [],.slice none 0 0] 33),.row 33 17 sv93 cs93.length (cs93.flatMap Subtype.val)] w∧RdZ Z v0_0_92 1 (eI .u8) s91.1∧EL nodeEnc Z cs93 s91.2) ?_ ?_
 rintro a w ⟨Z,s91,v0_0_92,sv93,cs93,hS,h,H,r0_0_92,el2⟩
 subst eJ91
 obtain ⟨Z,hsub,H,rz2_94⟩:=H.freezeRowN (E:=nodeEnc) 2 rfl el2
 have r0_0_92:=r0_0_92.sub hsub
 have H:HZ B0 _ _ O3 _:=H
 refine rg fun K k=>cps 2 h rfl fun a h=>?_
 obtain ⟨y95,f95,hS⟩:=bo hS
 refine st2 h rfl rfl rfl (dC call26 (tree_Apply_ok (x0:=s89) (x1:=s91.2) f95 H.zin rz2_94)) ?_
 rintro v_ w ⟨v176_96_1,rfl,r176_96_1,X⟩ a h
 obtain ⟨Z,hsub,hadd,H⟩:=H.adopt' X
 have r0_0_92:=r0_0_92.sub hsub
 have rz2_94:=rz2_94.sub hsub
 have r176_96_1:=r176_96_1.sub hadd
 refine z_store h H 1 rfl rfl rfl Z33 O17 rfl rfl (by obtain ⟨_,_,_,e_⟩:=(r176_96_1).form;subst e_;rfl) (by simp) O17 rfl (hl':=O3) rfl fun w H=>?_
 refine cN k h [4] [_] fun h=>?_
 cases hS
 refine r1 hr h rfl (rvA H 1 A33 Z33 O17) ⟨_,rfl,r176_96_1.sub (H.backO eB 0 rfl),⟨_,H.hp.get 0 rfl,r0_0_92.sub (H.backO eB 0 rfl)⟩,H.outB⟩
 obtain ⟨B97,eB97,hS⟩:=bv hS
 refine lpJ (fun mu_ a w=>∃ (Z:FZ) (s97:(List (Int)) × (List (Nd))) (v0_0_99:Value) (sv100:Value) (cs100:List (Cl 17)),loopF B97 mu_ s97=some res∧Fr 177 [(0,(pt sp0)),(1,.int .i64 x1),(4,(pt p1)),(10,.int .i64 s89),(11,sv100)] a∧HZ B0 Zi Z [.blk sp0 (Cel [v0_0_99] 23),.blk p1 (Cel [.int .i64 0,.int .i64 0,.int .i64 0,.int .i64 0,S [],.int .i64 0,.int .i64 0,.int .i64 0,.bool false,.bool false,.int .i64 0,.int .i64 0,.int .i64 0,.bool false,.bool false,S [],.slice none 0 0] 33),.row 33 17 sv100 cs100.length (cs100.flatMap Subtype.val)] w∧RdZ Z v0_0_99 1 (eI .u8) s97.1∧EL nodeEnc Z cs100 s97.2) KK ⟨_,_,_,_,_,hS,h.to,H,r0_0_4,el2⟩ ?_
 rintro mu_ a w ⟨Z,s97,v0_0_99,sv100,cs100,hS,h,H,r0_0_99,el2⟩
 obtain ⟨mu_,rfl,n97,en97,hS⟩:=lpX eB97 hS
 refine sq<|rg fun K k=>cps 1 h rfl fun a h=>s1 h rfl (v_lenN U31 rfl (H.rowN (i:=2) rfl el2) (hz_inn _)) fun a h=>sB h hS rfl (v_lt rfl rfl) fun z102 e102 hS a h=>cps 1 h rfl fun a h=>st_g h rfl rfl (gT rfl) rfl rfl (fun e0=>v_move rfl) fun a h=>?_
 refine st_g h rfl rfl (gT rfl) rfl rfl (fun e0=>v_move rfl) fun a h=>?_
 refine st_g h rfl rfl (gT rfl) rfl rfl (fun e0=>v_lenN U31 (eg e0 rfl) (H.rowN (i:=2) rfl el2) (hz_inn _)) fun a h=>?_
 obtain ⟨y103,f103,hS⟩:=bo hS
 refine st_gd (T:=Ext) (V:=.bool y103) h rfl rfl (gT rfl) rfl rfl (Ext.refl _) (fun e0=>d_call O2 (evs_c (eg e0 rfl) (evs_c (eg e0 rfl) evs_n)) call49 (tree_Fits_ok (x0:=s89) (x1:=(s97.2.length:Int)) (ifT e0 f103) (hGX _ H.outB))) fun w X a h=>?_
 have H:=H.ext X
 obtain ⟨z104,e104,hS⟩:=bv hS
 refine st_g h rfl rfl (gT rfl) rfl rfl (fun e0=>vB e104 (v_not (eg e0 rfl))) fun a h=>?_
 refine sB h hS rfl (v_and rfl rfl) fun z105 e105 hS a h=>cN k h [0,1,4,10,11,166] O6 fun h=>?_
 refine cI h hS rfl (fun ec106 hS=>?_) fun ec106 hS=>?_
 refine c_skip<|lb<|c_lregion<|cps 3 h rfl fun a h=>sI h hS rfl (v_subw rfl rfl) fun z108 e108 hS a h=>?_
 obtain ⟨y109,f109,hS⟩:=bo hS
 refine st2 h rfl rfl rfl (dC call13 (hrec f109 H.zin r0_0_99 (H.hp.get 0 rfl) (H.offI 0 rfl _ rfl) rfl rfl (hGX _ H.outB))) ?_
 rintro v_ w ⟨v171_110_1,rfl,r171_110_1,⟨sv_110,hm_110,rs_110⟩,X⟩ a h
 obtain ⟨Z,hsub,hadd,H⟩:=H.lentB 0 rfl hm_110 X (hl':=O3) rfl
 have el2:=el2.sub hsub
 have r171_110_1:=r171_110_1.sub hadd
 have rs_110:=rs_110.sub hadd
 have H:HZ B0 _ _ O3 _:=H
 refine z_slice (enc:=(Subtype.val (p:=fun l:List Value=>l.length=17))) ([⟨(nL y109.1 v171_110_1),rfl⟩]:List (Cl 17)) h H U31 Z33 V33 rfl (zl:=[.int .i64 0,.int .i64 0,.int .i64 0,.int .i64 0,S [],.int .i64 0,.int .i64 0,.int .i64 0,.bool false,.bool false,.int .i64 0,.int .i64 0,.int .i64 0,.bool false,.bool false,S [],.slice none 0 0]) kR (plA_get 1 17) [_] O17 rfl rfl rfl rfl rfl fun a v172_111 Z w hsub X H r172_111 h=>?_
 have el2:=el2.sub hsub
 have r171_110_1:=r171_110_1.sub hsub
 have rs_110:=rs_110.sub hsub
 have r172_111:RdN Z v172_111 nodeEnc [y109.1]:=⟨_,r172_111,⟨node_mk ⟨_,rfl,r171_110_1⟩,trivial⟩⟩
 obtain ⟨c113,hS⟩:=ck hS
 obtain ⟨z114,e114,hS⟩:=bv hS
 obtain ⟨cy_112,ry_112,ey_112⟩:=id r172_111
 refine z_appendS (enc:=(Subtype.val (p:=fun l:List Value=>l.length=17))) (out:=cs100) (data:=cy_112) h H 2 rfl U31 app33 rfl rfl rfl ry_112 (fun c=>c.2) ey_112.one (bnd el2.len ey_112.len c113) rfl fun a v173_112 w H h=>?_
 have el2:=EL.append el2 ey_112
 rw [←e114] at el2
 have el2:EL nodeEnc Z (List.append (α:=Cl 17) cs100 cy_112) z114:=el2
 have H:HZ B0 _ _ O3 _:=H
 refine cps 1 h rfl fun a h=>c_lnil ?_
 exact exL (ex5 ⟨lpN en97 hS,h.to,H,rs_110,el2⟩)
 exact c_exit (ex5 ⟨hS,h.to,H,r0_0_99,el2⟩)
 refine rg fun K k=>cps 1 h rfl fun a h=>s1 h rfl (v_nilCheck rfl) fun a h=>s1 h rfl (l1 H 0 isAgg23) fun a h=>s1 h rfl (v_len U23 rfl (r0_0_4.at H.zin)) fun a h=>sB h hS rfl (v_gt rfl rfl) fun z115 e115 hS a h=>cN k h [0,1,4,10,148] O5 fun h=>?_
 refine cI h hS rfl (fun ec116 hS=>?_) fun ec116 hS=>?_
 refine c_lregion<|cps 1 h rfl fun a h=>s1 h rfl (v_nilCheck rfl) fun a h=>s1 h rfl (l1 H 0 isAgg23) fun a h=>?_
 obtain ⟨c117,hS⟩:=ck hS
 obtain ⟨z118,e118,hS⟩:=bv hS
 refine st_idx h U23 Z5 rfl rfl (r0_0_4.at H.zin) (fun _=>rfl) z118 c117.1 (by rw [e118];exact gel_some c117) rfl fun a v152 A152 h=>?_
 refine s1 h rfl (v_loadAt1 rfl A152 isAgg5 rfl) fun a h=>sI h hS rfl (v_convInt (by rw [U5];rfl) U3 rfl rfl) fun z119 e119 hS a h=>sI h hS rfl (v_rem rfl rfl (by decide)) fun z120 e120 hS a h=>sI h hS rfl (v_addw rfl rfl) fun z121 e121 hS a h=>cps 1 h rfl fun a h=>c_lnil ?_
 exact ex2 ⟨hS,h.to,H,r0_0_4⟩
 exact c_skip (ex2 ⟨hS,h.to,H,r0_0_4⟩)
 refine rg fun K k=>cps 1 h rfl fun a h=>sB h hS rfl (v_le rfl rfl) fun z122 e122 hS a h=>cps 1 h rfl fun a h=>st_g h rfl rfl (gF rfl) rfl rfl (fun e0=>v_move rfl) fun a h=>?_
 refine st_g h rfl rfl (gF rfl) rfl rfl (fun e0=>v_nilCheck (eg e0 rfl)) fun a h=>?_
 refine st_g h rfl rfl (gF rfl) rfl rfl (fun e0=>v_load1 (eg e0 rfl) isAgg23 (H.hp.get 0 rfl) rfl) fun a h=>?_
 refine st_g h rfl rfl (gF rfl) rfl rfl (fun e0=>v_len U23 (eg e0 rfl) (r0_0_4.at H.zin)) fun a h=>?_
 obtain ⟨z123,e123,hS⟩:=bv hS
 refine st_g h rfl rfl (gF rfl) rfl rfl (fun e0=>vB e123 (v_eq (eg e0 rfl) rfl)) fun a h=>?_
 refine sB h hS rfl (v_or rfl rfl) fun z124 e124 hS a h=>cN k h [0,1,4,5,6,39] O6 fun h=>?_
 refine cI h hS rfl (fun ec125 hS=>?_) fun ec125 hS=>?_
 refine c_lregion<|cps 1 h rfl fun a h=>sI h hS rfl (v_rem rfl rfl (by decide)) fun z126 e126 hS a h=>cps 1 h rfl fun a h=>c_lnil ?_
 exact ex2 ⟨hS,h.to,H,r0_0_4⟩
 exact c_skip (ex2 ⟨hS,h.to,H,r0_0_4⟩)
 refine rg fun K k=>cps 1 h rfl fun a h=>s1 h rfl (v_nilCheck rfl) fun a h=>s1 h rfl (l1 H 0 isAgg23) fun a h=>s1 h rfl (v_len U23 rfl (rs0.at H.zin)) fun a h=>sB h hS rfl (v_gt rfl rfl) fun z127 e127 hS a h=>cN k h [0,1,4,5,16] O5 fun h=>?_
 refine cI h hS rfl (fun ec128 hS=>?_) fun ec128 hS=>?_
 refine rg fun K k=>cps 1 h rfl fun a h=>s1 h rfl (v_nilCheck rfl) fun a h=>s1 h rfl (l1 H 0 isAgg23) fun a h=>?_
 obtain ⟨c129,hS⟩:=ck hS
 obtain ⟨z130,e130,hS⟩:=bv hS
 refine st_idx h U23 Z5 rfl rfl (rs0.at H.zin) (fun _=>rfl) z130 c129.1 (by rw [e130];exact gel_some c129) rfl fun a v20 A20 h=>?_
 refine s1 h rfl (v_loadAt1 rfl A20 isAgg5 rfl) fun a h=>sI h hS rfl (v_convInt (by rw [U5];rfl) U3 rfl rfl) fun z131 e131 hS a h=>cps 1 h rfl fun a h=>cN k h [0,1,4,5] O4 fun h=>?_
 refine c_lregion<|cps 2 h rfl fun a h=>s1 h rfl (v_nilCheck rfl) fun a h=>s1 h rfl (l1 H 0 isAgg23) fun a h=>?_
 obtain ⟨c132,hS⟩:=ck hS
 obtain ⟨z133,e133,hS⟩:=bv hS
 refine z_part_l (enc:=(eI .u8)) (sz:=1) (fun _=>rfl) h U23 Z5 rfl rfl rs0 c132 rfl fun a v27_134 r27_134 h=>?_
 rw [←e133] at r27_134
 refine s1 h rfl (v_nilCheck rfl) fun a h=>z_store h H 0 rfl rfl rfl sizeOf23 [v27_134] (by rw [r27_134.cells]) rfl (by obtain ⟨_,_,_,e_⟩:=(r27_134).form;subst e_;rfl) (by simp) [_] rfl (hl':=O2) rfl fun w H=>?_
 refine c_lnil ?_
 exact ex3 ⟨hS,h.to,H,r27_134⟩
 exact c_skip (ex3 ⟨hS,h.to,H,rs0⟩)
theorem reckonerlaw05_Seed_Formula_ok (k:Nat):∀ {x0:List Int} {x1:Int} {res:(Nd) × (List Int)} {w0:World} (hS:reckonerlaw05_Seed_Formula k x0 x1=some res) {Z:FZ} (hZ:Z.inn w0) {sp0:Nat} {sv0:Value} (rs0:RdZ Z sv0 1 (eI .u8) x0) (hm0:w0.heap[sp0]?=some (Cel [sv0] 23)) (om0:Z sp0=none) {B0:Bs} (eB:B0=⟨w0,[sp0]⟩) {Zi:FZ} (eZ:Zi=Z) (hG:GW w0),Calls Tryz.prog 13 [(pt sp0),.int .i64 x1].toArray w0 (Ret fun v w=>∃ u1,v=.agg #[.int .i64 res.1.k,.int .i64 res.1.op,.int .i64 res.1.v.k,.int .i64 res.1.v.n,S res.1.v.s,.int .i64 res.1.a.c.s,.int .i64 res.1.a.c.c,.int .i64 res.1.a.c.r,.bool res.1.a.ac,.bool res.1.a.ar,.int .i64 res.1.b.c.s,.int .i64 res.1.b.c.c,.int .i64 res.1.b.c.r,.bool res.1.b.ac,.bool res.1.b.ar,S res.1.nm,u1]∧RdN (ZB Zi w0.heap.size w) u1 nodeEnc res.1.l∧(∃ sv',w.heap[sp0]?=some (Cel [sv'] 23)∧RdZ (ZB Zi w0.heap.size w) sv' 1 (eI .u8) res.2)∧ExtB B0 w):=by
 induction k with
 |zero=>intro x0 x1 res w0 hS;exact nomatch (show (none:Option ((Nd) × (List Int)))=some res from hS)
 |succ k ih=>exact @reckonerlaw05_Seed_Formula_B_ok (reckonerlaw05_Seed_Formula k) @ih
end Go.Proofs.YtcecjdnkcbfhlaaGreatDoor
