/- Joined texts. -/
import Derived.Test.YtcecjdnkcbfhlaaGreatDoorEU0
import Derived.Test.YtcecjdnkcbfhlaaGreatDoorEWkR
set_option linter.unusedSimpArgs false
set_option linter.unusedVariables false
set_option linter.unusedSectionVars false
namespace Go.Proofs.YtcecjdnkcbfhlaaGreatDoor
open Go.Stp Go.RowKit Go.ValP Go.Sp _root_.Go.Proofs.Tryz
set_option maxRecDepth 100000
theorem eval_Eval_ok {x0:Nd} {x1:C} {x2:List V} {res:Rs} {w0:World} (hS:eval_Eval x0 x1 x2=some res) {Z:FZ} (hZ:Z.inn w0) {xv0:Value} (rp0:RdN Z xv0 nodeEnc x0.l) {pb2:Nat} (hp2:Z pb2=some (Cel ((x2:List V).flatMap vL) 39)) (lp2:x2.length=128) (hG:GW w0):Calls Tryz.prog 19 [(nA x0 xv0),(cA x1),.iface 35 (pt pb2)].toArray w0 (Ret fun v w=>∃ u1,v=.agg #[.int .i64 res.v.k,.int .i64 res.v.n,S res.v.s,.int .i64 res.c.s,.int .i64 res.c.c,.int .i64 res.c.r,u1]∧RdZ (ZB Z0 w0.heap.size w) u1 3 cL res.l∧Ext w0 w):=by
 refine enS hZ func19 [0,1,2] O3 fun Q a Zi eZi H h hr=>?_
 try rw [←eZi] at hr
 clear eZi
 unfold eval_Eval at hS
 refine rg fun K k=>z_box h H rfl O17 rfl rfl fun a p1 w X H h=>?_
 have H:HZ w0 _ _ [_] _:=H
 refine z_box h H rfl O3 rfl rfl fun a p2 w X H h=>?_
 have H:HZ w0 _ _ O2 _:=H
 refine zA h H zeroValue51 O7 (fun x=>[_,_,x]) fun a p3 w X H h=>?_
 refine cz k<|rg fun K k=>cps 1 h rfl fun a h=>s1 h rfl (lA H 1 A28 Z28 O3) fun a h=>z_makeMap cV Value.bool h H rfl fun a p4 w X H h=>?_
 have H:HZ w0 _ _ O4 _:=H
 refine s1 h rfl (v_build bld107 O3 O5 rfl rfl) fun a h=>z_box h H rfl O5 rfl rfl fun a p5 w X H h=>?_
 have H:HZ w0 _ _ O5 _:=H
 refine cps 1 h rfl fun a h=>cN k h [3,6,7] O3 fun h=>?_
 refine rg fun K k=>cps 1 h rfl fun a h=>s1 h rfl (lA H 0 A33 Z33 O17) fun a h=>?_
 obtain ⟨Z,hsub,H,hz4_6⟩:=H.freezeB 4 rfl rfl
 have rp0:=rp0.sub hsub
 have hp2:=hsub _ _ hp2
 have H:HZ w0 _ _ O5 _:=H
 obtain ⟨y7,f7,hS⟩:=bo hS
 refine st2 h rfl rfl rfl (dC call58 (eval_run_eval_ok KK f7 H.zin rp0 hz4_6 hp2 lp2 (H.hp.get 3 rfl) (H.offI 3 rfl _ rfl) rfl rfl (hG.ext H.out))) ?_
 rintro v_ w ⟨rfl,hm_8,X⟩ a h
 obtain ⟨Z,hsub,hadd,H⟩:=H.lentB 3 rfl hm_8 X (hl':=O5) rfl
 have rp0:=rp0.sub hsub
 have hp2:=hsub _ _ hp2
 have hz4_6:=hsub _ _ hz4_6
 have H:HZ w0 _ _ O5 _:=H
 refine zA h H V109 O6 (fun x=>[_,_,_,_,_,x]) fun a p9 w X H h=>?_
 refine zS h H 5 Z109 O6 O6 O6 fun w H=>?_
 refine cN k h [6,7,8] O3 fun h=>?_
 refine rg fun K k=>s1 h rfl (v_fieldAddr rfl U109 rfl Z26 rfl rfl) fun a h=>s1 h rfl (lA H 5 A26 Z26 O3) fun a h=>s1 h rfl (v_build bld51 [_] O7 rfl rfl) fun a h=>zA h H zeroValue51 O7 (fun x=>[_,_,_,_,_,_,x]) fun a p10 w X H h=>?_
 refine zS h H 6 sizeOf51 O7 O7 O7 fun w H=>?_
 refine cz k ?_
 obtain ⟨J12,eJ12,hS⟩:=bv hS
 refine sqJ (fun a w=>∃ (Z:FZ) (s12:Int × Int × Int),J12 s12=some res∧Fr 48 [(6,(pt p3)),(7,(pt p5)),(9,(pt p10))] a∧HZ w0 Zi Z [.blk p1 (Cel (nL x0 xv0) 33),.blk p2 (Cel (cL x1) 28),.blk p3 (Cel [.int .i64 0,.int .i64 0,S [],.int .i64 0,.int .i64 0,.int .i64 0,.slice none 0 0] 51),.blk p4 (MObj cV Value.bool y7.2),.row 0 1 (.slice none 0 0) 0 [],.blk p9 (Cel (gL y7.1) 109),.blk p10 (Cel [.int .i64 y7.1.v.k,.int .i64 y7.1.v.n,S y7.1.v.s,.int .i64 s12.1,.int .i64 s12.2.1,.int .i64 s12.2.2,.slice none 0 0] 51)] w∧RdN Z xv0 nodeEnc x0.l∧Z pb2=some (Cel ((x2:List V).flatMap vL) 39)∧Z p5=some (Cel [.iface 35 (pt pb2),.int .i64 x1.s,.int .i64 x1.c,.int .i64 x1.r,.map (some p4)] 107)) ?_ ?_
 rintro a w ⟨Z,s12,hS,h,H,rp0,hp2,hz4_6⟩
 subst eJ12
 refine cO h [6,7,9] O3 fun h=>?_
 have H:=H.nilRow 28 3 rfl
 have H:HZ w0 _ _ O8 _:=H
 obtain ⟨c14,hS⟩:=ck hS
 refine sqJ (fun a w=>∃ (Z:FZ) (sv_13:Value) (ks_13:List (C)),ks_13.Perm (y7.2.map (·.1))∧Fr 48 [(6,(pt p3)),(9,(pt p10))] a∧HZ w0 Zi Z [.blk p1 (Cel (nL x0 xv0) 33),.blk p2 (Cel (cL x1) 28),.blk p3 (Cel [.int .i64 0,.int .i64 0,S [],.int .i64 0,.int .i64 0,.int .i64 0,.slice none 0 0] 51),.blk p4 (MObj cV Value.bool y7.2),.row 0 1 (.slice none 0 0) 0 [],.blk p9 (Cel (gL y7.1) 109),.blk p10 (Cel [.int .i64 y7.1.v.k,.int .i64 y7.1.v.n,S y7.1.v.s,.int .i64 s12.1,.int .i64 s12.2.1,.int .i64 s12.2.2,sv_13] 51),.row 28 3 sv_13 (ks_13:List (C)).length ((ks_13:List (C)).flatMap cL)] w) ?_ ?_
 rintro a w ⟨Z,sv_13,ks_13,hks_13,h,H⟩
 have H:HZ w0 _ _ O8 _:=H
 refine rg fun K k=>s1 h rfl (v_fieldAddr rfl U51 rfl sizeOf49 rfl rfl) fun a h=>s1 h rfl (l1 H 6 isAgg49) fun a h=>st2 h rfl rfl rfl (dC call59 (sortC_ok H 7 rfl hks_13 c14.1)) ?_
 rintro v_ w ⟨rfl,H⟩ a h
 have H:HZ w0 _ _ O8 _:=H
 refine cz k<|rg fun K k=>s1 h rfl (lA H 6 isAgg51 sizeOf51 O7) fun a h=>z_store h H 2 rfl rfl rfl sizeOf51 O7 rfl rfl (by obtain ⟨_,_,_,e_⟩:=(H.rowZ (i:=7) (enc:=cL) rfl).form;subst e_;rfl) (by simp) O7 rfl (hl':=O8) rfl fun w H=>?_
 refine cN k h [6] [_] fun h=>?_
 cases hS
 refine r1 hr h rfl (rvA H 2 isAgg51 sizeOf51 O7) ⟨_,rfl,(H.backRow (i:=7) rfl),H.out⟩
 refine rg fun K k=>cps 1 h rfl fun a h=>s1 h rfl (v_nilCheck rfl) fun a h=>s1 h rfl (v_fieldAddr rfl underlying107 rfl sizeOf105 rfl rfl) fun a h=>s1 h rfl (v_load1 rfl isAgg105 (H.zin _ _ hz4_6) rfl) fun a h=>z_rangeM h H 3 rfl underlying105 rfl rfl fun a it_13 w X H h=>?_
 have H:HZ w0 _ _ O9 _:=H
 refine cN k h [6,9,33] O3 fun h=>?_
 refine lb<|lpJ (fun mu_ a w=>∃ (Z:FZ) (sv_13:Value) (is_13:List Nat),is_13.Nodup∧(∀ i∈is_13,i<y7.2.length)∧mu_=lcnt cV Value.bool y7.2 is_13∧Fr 48 [(6,(pt p3)),(9,(pt p10)),(33,(pt it_13))] a∧HZ w0 Zi Z [.blk p1 (Cel (nL x0 xv0) 33),.blk p2 (Cel (cL x1) 28),.blk p3 (Cel [.int .i64 0,.int .i64 0,S [],.int .i64 0,.int .i64 0,.int .i64 0,.slice none 0 0] 51),.blk p4 (MObj cV Value.bool y7.2),.row 0 1 (.slice none 0 0) 0 [],.blk p9 (Cel (gL y7.1) 109),.blk p10 (Cel [.int .i64 y7.1.v.k,.int .i64 y7.1.v.n,S y7.1.v.s,.int .i64 s12.1,.int .i64 s12.2.1,.int .i64 s12.2.2,sv_13] 51),.row 28 3 sv_13 ((List.map (kOf y7.2) is_13):List (C)).length (((List.map (kOf y7.2) is_13):List (C)).flatMap cL),.blk it_13 (.mapIter (some p4) y7.2.length (is_13:List Nat).toArray y7.2.length)] w) _ ⟨_,_,[],List.nodup_nil,(fun _ h_=>nomatch h_),rfl,h.to,H⟩ ?_
 rintro mu_ a w ⟨Z,sv_13,is_13,hn_13,hi_13,hm_13,h,H⟩
 have H:HZ w0 _ _ O9 _:=H
 refine rg fun K k=>z_nextM h H 3 8 rfl rfl rfl rfl (fun hall_13 a h=>?_) (fun q_13 p_13 hp_13 hq_13 a w H h=>?_)
 refine s1 h rfl (v_extract rfl rfl) fun a h=>cz k<|sq<|c_cond h rfl (fun e_=>nomatch e_) (fun _=>?_)
 refine c_exit ?_
 exact ⟨_,_,_,keys_perm hn_13 hi_13 hall_13,h.to,H.keepN 8 rfl⟩
 refine s1 h rfl (v_extract rfl rfl) fun a h=>cN k h [6,9,33,35] O4 fun h=>?_
 refine sq<|c_cond h rfl (fun _=>?_) (fun e_=>nomatch e_)
 refine c_skip ?_
 have H:HZ w0 _ _ O9 _:=H
 refine lb<|rg fun K k=>s1 h rfl (v_entryM rfl (H.hp.get 3 rfl) (H.hp.get 8 rfl) hp_13) fun a h=>cps 1 h rfl fun a h=>zA h H V28 O3 (fun x=>[_,_,_,_,_,_,_,_,_,x]) fun a p15 w X H h=>?_
 refine zS h H 9 Z28 O3 O3 O10 fun w H=>?_
 refine cN k h [6,9,10,33] O4 fun h=>?_
 refine c_lregion<|s1 h rfl (v_fieldAddr rfl U51 rfl sizeOf49 rfl rfl) fun a h=>s1 h rfl (l1 H 6 isAgg49) fun a h=>s1 h rfl (lA H 9 A28 Z28 O3) fun a h=>z_slice (enc:=cL) ([p_13.1]:List (C)) h H underlying49 Z28 V28 rfl (zl:=[.int .i64 0,.int .i64 0,.int .i64 0]) kR (plA_get 1 3) [_] O3 rfl rfl rfl rfl rfl fun a v41_16 Z w hsub X H r41_16 h=>?_
 have c18:(List.map (kOf y7.2) is_13).length+[p_13.1].length≤9223372036854775807∧((List.map (kOf y7.2) is_13).length+[p_13.1].length)*24≤140737488355328:=by (have h1_:=bound_len hn_13 hi_13 hp_13 hq_13;simp only [List.length_map,List.length_cons,List.length_nil];omega)
 obtain ⟨z19,e19⟩:∃ x_:List (C),x_=(List.map (kOf y7.2) is_13)++[p_13.1]:=⟨_,rfl⟩
 refine z_appendS (enc:=cL) (out:=(List.map (kOf y7.2) is_13)) (data:=[p_13.1]) h H 7 rfl underlying49 app28 rfl rfl rfl r41_16 (fun _=>rfl) (fun _ _=>rfl) c18 rfl fun a v42_17 w H h=>?_
 rw [←e19] at H
 have H:HZ w0 _ _ O10 _:=H
 refine s1 h rfl (v_fieldAddr rfl U51 rfl sizeOf49 rfl rfl) fun a h=>z_store h H 6 rfl rfl rfl sizeOf49 [v42_17] (by rw [(H.rowZ (i:=7) (enc:=cL) rfl).cells]) rfl (by obtain ⟨_,_,_,e_⟩:=(H.rowZ (i:=7) (enc:=cL) rfl).form;subst e_;rfl) (by simp) O7 rfl (hl':=O10) rfl fun w H=>?_
 have ed_13:z19=List.map (kOf y7.2) (is_13++[q_13]):=by rw [e19,List.map_append,List.map_cons,List.map_nil,kOf_some hp_13]
 rw [ed_13] at H
 refine c_lnil ?_
 exact ⟨_,hm_13▸lcnt_less hp_13 hq_13,_,_,is_13++[q_13],nodup_snoc hn_13 hq_13,bound_snoc hi_13 hp_13,rfl,h.to,H.keepN 9 rfl⟩
 refine rg fun K k=>s1 h rfl (v_fieldAddr rfl U109 rfl Z26 rfl rfl) fun a h=>s1 h rfl (v_fieldAddr rfl U26 rfl Z3 rfl rfl) fun a h=>s1 h rfl (l1 H 5 A3) fun a h=>sB h hS rfl (v_eq rfl rfl) fun z20 e20 hS a h=>cN k h [6,7,8,9,25] O5 fun h=>?_
 refine cI h hS rfl (fun ec21 hS=>?_) fun ec21 hS=>?_
 refine c_lregion<|s1 h rfl (v_fieldAddr rfl U109 rfl Z28 rfl rfl) fun a h=>s1 h rfl (lA H 5 A28 Z28 O3) fun a h=>s1 h rfl (v_fieldAddr rfl U51 rfl Z28 rfl rfl) fun a h=>zS h H 6 Z28 O3 O7 O7 fun w H=>?_
 refine c_lnil ?_
 exact ex2 ⟨hS,h.to,H,rp0,hp2,hz4_6⟩
 exact c_skip (ex2 ⟨hS,h.to,H,rp0,hp2,hz4_6⟩)
end Go.Proofs.YtcecjdnkcbfhlaaGreatDoor
