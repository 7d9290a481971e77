/- Joined texts. -/
import Derived.Test.YtcecjdnkcbfhlaaGreatDoorEFPa
import Derived.Test.YtcecjdnkcbfhlaaGreatDoorEM0
import Derived.Test.YtcecjdnkcbfhlaaGreatDoorEU0
import Derived.Test.YtcecjdnkcbfhlaaGreatDoorEWkLx
set_option linter.unusedSimpArgs false
set_option linter.unusedVariables false
set_option linter.unusedSectionVars false
namespace Go.Proofs.YtcecjdnkcbfhlaaGreatDoor
open Go.Stp Go.RowKit Go.ValP Go.Sp _root_.Go.Proofs.Tryz
set_option maxRecDepth 100000
theorem parse_parser_is_ok {x0:List Tk} {x0s:Int} {x0e:Int} {x0d:Int} {x1:List UInt8} {res:(Bool) × (List Tk)} {w0:World} (hS:parse_parser_is x0 x0s x0e x0d x1=some res) {Z:FZ} (hZ:Z.inn w0) {sp0:Nat} {sv0:Value} (rs0:RdZ Z sv0 3 tkL x0) (hm0:w0.heap[sp0]?=some (Cel [sv0,.int .i64 x0s,.int .i64 x0e,.int .i64 x0d] 126)) (om0:Z sp0=none) {B0:Bs} (eB:B0=⟨w0,[sp0]⟩) {Zi:FZ} (eZ:Zi=Z):Calls Tryz.prog 143 [(pt sp0),S x1].toArray w0 (Ret fun v w=>v=.bool res.1∧(∃ sv',w.heap[sp0]?=some (Cel [sv',.int .i64 x0s,.int .i64 x0e,.int .i64 x0d] 126)∧RdZ (ZB Zi w0.heap.size w) sv' 3 tkL res.2)∧ExtB B0 w):=by
 have H:HZ B0 Zi Z [.blk sp0 (Cel [sv0,.int .i64 x0s,.int .i64 x0e,.int .i64 x0d] 126)] w0:=by rw [eB,eZ];exact HZ.startLM hZ hm0 om0
 refine enG func143 [0,1] O2 fun Q a h hr hn=>?_
 clear eZ
 have H:HZ B0 _ _ [_] _:=H
 unfold parse_parser_is at hS
 refine rg fun K k=>cps 1 h rfl fun a h=>cz k<|sq<|rg fun K k=>cps 1 h rfl fun a h=>s1 h rfl (v_nilCheck rfl) fun a h=>s1 h rfl (v_fieldAddr rfl U126 rfl Z118 rfl rfl) fun a h=>s1 h rfl (l1 H 0 isAgg118) fun a h=>s1 h rfl (v_len U118 rfl (rs0.at H.zin)) fun a h=>sB h hS rfl (v_eq rfl rfl) fun z2 e2 hS a h=>cps 1 h rfl fun a h=>st_g h rfl rfl (gF rfl) rfl rfl (fun e0=>v_move rfl) fun a h=>?_
 refine st_g h rfl rfl (gF rfl) rfl rfl (fun e0=>v_nilCheck (eg e0 rfl)) fun a h=>?_
 refine st_g h rfl rfl (gF rfl) rfl rfl (fun e0=>v_fieldAddr (eg e0 rfl) U126 rfl Z118 rfl rfl) fun a h=>?_
 refine st_g h rfl rfl (gF rfl) rfl rfl (fun e0=>v_load1 (eg e0 rfl) isAgg118 (H.hp.get 0 rfl) rfl) fun a h=>?_
 obtain ⟨c3,hS⟩:=ck hS
 obtain ⟨z4,e4,hS⟩:=bv hS
 refine st_idxG h rfl (gF rfl) U118 Z158 (fun e0=>(eg e0 rfl)) (fun e0=>rfl) (rs0.at H.zin) (fun _=>rfl) z4 (fun e0=>(c3 e0).1) (fun e0=>(by rw [e4];exact gel_some (c3 e0))) rfl fun a v16 A16 h=>?_
 refine st_fieldG h rfl (gF rfl) (fun e0=>(eg e0 rfl)) (fun e0=>(A16 e0)) U158 rfl Z3 rfl rfl rfl fun a v17 A17 h=>?_
 refine st_g h rfl rfl (gF rfl) rfl rfl (fun e0=>v_loadAt1 (eg e0 rfl) (A17 e0) A3 rfl) fun a h=>?_
 obtain ⟨z5,e5,hS⟩:=bv hS
 refine st_g h rfl rfl (gF rfl) rfl rfl (fun e0=>vB e5 (v_ne (eg e0 rfl) rfl)) fun a h=>?_
 refine sB h hS rfl (v_or rfl rfl) fun z6 e6 hS a h=>cps 1 h rfl fun a h=>st_g h rfl rfl (gF rfl) rfl rfl (fun e0=>v_move rfl) fun a h=>?_
 refine st_g h rfl rfl (gF rfl) rfl rfl (fun e0=>v_nilCheck (eg e0 rfl)) fun a h=>?_
 refine st_g h rfl rfl (gF rfl) rfl rfl (fun e0=>v_fieldAddr (eg e0 rfl) U126 rfl Z118 rfl rfl) fun a h=>?_
 refine st_g h rfl rfl (gF rfl) rfl rfl (fun e0=>v_load1 (eg e0 rfl) isAgg118 (H.hp.get 0 rfl) rfl) fun a h=>?_
 obtain ⟨c7,hS⟩:=ck hS
 obtain ⟨z8,e8,hS⟩:=bv hS
 refine st_idxG h rfl (gF rfl) U118 Z158 (fun e0=>(eg e0 rfl)) (fun e0=>rfl) (rs0.at H.zin) (fun _=>rfl) z8 (fun e0=>(c7 e0).1) (fun e0=>(by rw [e8];exact gel_some (c7 e0))) rfl fun a v26 A26 h=>?_
 refine st_fieldG h rfl (gF rfl) (fun e0=>(eg e0 rfl)) (fun e0=>(A26 e0)) U158 rfl Z9 rfl rfl rfl fun a v27 A27 h=>?_
 refine st_g h rfl rfl (gF rfl) rfl rfl (fun e0=>v_loadAt1 (eg e0 rfl) (A27 e0) A9 rfl) fun a h=>?_
 refine st_g h rfl rfl (gF rfl) rfl rfl (fun e0=>v_move rfl) fun a h=>?_
 obtain ⟨z9,e9,hS⟩:=bv hS
 refine st_g h rfl rfl (gF rfl) rfl rfl (fun e0=>vB e9 (v_sne (eg e0 rfl) (eg e0 rfl))) fun a h=>?_
 refine sB h hS rfl (v_or rfl rfl) fun z10 e10 hS a h=>cN k h [0,31] O2 fun h=>?_
 refine cI h hS rfl (fun ec11 hS=>?_) fun ec11 hS=>?_
 refine rg fun K k=>cps 1 h rfl fun a h=>cz k ?_
 cases hS
 refine r1 hr h rfl rfl ⟨rfl,⟨_,H.hp.get 0 rfl,rs0.sub (H.backO eB 0 rfl)⟩,H.outB⟩
 refine c_skip<|rg fun K k=>cps 2 h rfl fun a h=>s1 h rfl (v_nilCheck rfl) fun a h=>s1 h rfl (v_fieldAddr rfl U126 rfl Z118 rfl rfl) fun a h=>s1 h rfl (l1 H 0 isAgg118) fun a h=>?_
 obtain ⟨c12,hS⟩:=ck hS
 obtain ⟨z13,e13,hS⟩:=bv hS
 refine z_part_l (enc:=tkL) (sz:=3) (fun _=>rfl) h U118 Z158 rfl rfl rs0 c12 rfl fun a v37_14 r37_14 h=>?_
 rw [←e13] at r37_14
 refine s1 h rfl (v_nilCheck rfl) fun a h=>s1 h rfl (v_fieldAddr rfl U126 rfl Z118 rfl rfl) fun a h=>z_store h H 0 rfl rfl rfl Z118 [v37_14] (by rw [r37_14.cells]) rfl (by obtain ⟨_,_,_,e_⟩:=(r37_14).form;subst e_;rfl) (by simp) O4 rfl (hl':=[_]) rfl fun w H=>?_
 refine cN k h [] [] fun h=>?_
 refine rg fun K k=>cps 1 h rfl fun a h=>cz k ?_
 cases hS
 refine r1 hr h rfl rfl ⟨rfl,⟨_,H.hp.get 0 rfl,r37_14.sub (H.backO eB 0 rfl)⟩,H.outB⟩
theorem parse_parser_op_ok {x0:List Tk} {x0s:Int} {x0e:Int} {x0d:Int} {x1:Int} {res:(Int) × (List Tk)} {w0:World} (hS:parse_parser_op x0 x0s x0e x0d x1=some res) {Z:FZ} (hZ:Z.inn w0) {sp0:Nat} {sv0:Value} (rs0:RdZ Z sv0 3 tkL x0) (hm0:w0.heap[sp0]?=some (Cel [sv0,.int .i64 x0s,.int .i64 x0e,.int .i64 x0d] 126)) (om0:Z sp0=none) {B0:Bs} (eB:B0=⟨w0,[sp0]⟩) {Zi:FZ} (eZ:Zi=Z) (hG:GWL w0):Calls Tryz.prog 101 [(pt sp0),.int .i64 x1].toArray w0 (Ret fun v w=>v=.int .i64 res.1∧(∃ sv',w.heap[sp0]?=some (Cel [sv',.int .i64 x0s,.int .i64 x0e,.int .i64 x0d] 126)∧RdZ (ZB Zi w0.heap.size w) sv' 3 tkL res.2)∧ExtB B0 w):=by
 have H:HZ B0 Zi Z [.blk sp0 (Cel [sv0,.int .i64 x0s,.int .i64 x0e,.int .i64 x0d] 126)] w0:=by rw [eB,eZ];exact HZ.startLM hZ hm0 om0
 refine enG func101 [0,1] O2 fun Q a h hr hn=>?_
 have hGX:∀ w,ExtB B0 w→GWL w:=fun w X=>hG.extP rs0.form hm0 rfl eB X
 clear eZ
 have H:HZ B0 _ _ [_] _:=H
 unfold parse_parser_op at hS
 refine rg fun K k=>cps 1 h rfl fun a h=>cz k<|sq<|rg fun K k=>cps 1 h rfl fun a h=>s1 h rfl (v_nilCheck rfl) fun a h=>s1 h rfl (v_fieldAddr rfl U126 rfl Z118 rfl rfl) fun a h=>s1 h rfl (l1 H 0 isAgg118) fun a h=>s1 h rfl (v_len U118 rfl (rs0.at H.zin)) fun a h=>sB h hS rfl (v_eq rfl rfl) fun z2 e2 hS a h=>cps 1 h rfl fun a h=>st_g h rfl rfl (gF rfl) rfl rfl (fun e0=>v_move rfl) fun a h=>?_
 refine st_g h rfl rfl (gF rfl) rfl rfl (fun e0=>v_nilCheck (eg e0 rfl)) fun a h=>?_
 refine st_g h rfl rfl (gF rfl) rfl rfl (fun e0=>v_fieldAddr (eg e0 rfl) U126 rfl Z118 rfl rfl) fun a h=>?_
 refine st_g h rfl rfl (gF rfl) rfl rfl (fun e0=>v_load1 (eg e0 rfl) isAgg118 (H.hp.get 0 rfl) rfl) fun a h=>?_
 obtain ⟨c3,hS⟩:=ck hS
 obtain ⟨z4,e4,hS⟩:=bv hS
 refine st_idxG h rfl (gF rfl) U118 Z158 (fun e0=>(eg e0 rfl)) (fun e0=>rfl) (rs0.at H.zin) (fun _=>rfl) z4 (fun e0=>(c3 e0).1) (fun e0=>(by rw [e4];exact gel_some (c3 e0))) rfl fun a v21 A21 h=>?_
 refine st_fieldG h rfl (gF rfl) (fun e0=>(eg e0 rfl)) (fun e0=>(A21 e0)) U158 rfl Z3 rfl rfl rfl fun a v22 A22 h=>?_
 refine st_g h rfl rfl (gF rfl) rfl rfl (fun e0=>v_loadAt1 (eg e0 rfl) (A22 e0) A3 rfl) fun a h=>?_
 obtain ⟨z5,e5,hS⟩:=bv hS
 refine st_g h rfl rfl (gF rfl) rfl rfl (fun e0=>vB e5 (v_ne (eg e0 rfl) rfl)) fun a h=>?_
 refine sB h hS rfl (v_or rfl rfl) fun z6 e6 hS a h=>cN k h [0,1,25] O3 fun h=>?_
 refine cI h hS rfl (fun ec7 hS=>?_) fun ec7 hS=>?_
 refine rg fun K k=>cps 1 h rfl fun a h=>cz k ?_
 cases hS
 refine r1 hr h rfl rfl ⟨rfl,⟨_,H.hp.get 0 rfl,rs0.sub (H.backO eB 0 rfl)⟩,H.outB⟩
 refine c_skip<|rg fun K k=>cps 1 h rfl fun a h=>s1 h rfl (v_nilCheck rfl) fun a h=>s1 h rfl (v_fieldAddr rfl U126 rfl Z118 rfl rfl) fun a h=>s1 h rfl (l1 H 0 isAgg118) fun a h=>?_
 obtain ⟨c8,hS⟩:=ck hS
 obtain ⟨z9,e9,hS⟩:=bv hS
 refine st_idx h U118 Z158 rfl rfl (rs0.at H.zin) (fun _=>rfl) z9 c8.1 (by rw [e9];exact gel_some c8) rfl fun a v30 A30 h=>?_
 refine st_fieldAt h rfl A30 U158 rfl Z9 rfl rfl rfl fun a v31 A31 h=>?_
 refine s1 h rfl (v_loadAt1 rfl A31 A9 rfl) fun a h=>cps 1 h rfl fun a h=>cN k h [0,1,5] O3 fun h=>?_
 obtain ⟨J11,eJ11,hS⟩:=bv hS
 refine sqJ (fun a w=>∃ (Z:FZ) (s11:(List (Tk))) (v0_0_12:Value),J11 s11=some res∧Fr 67 [] a∧HZ B0 Zi Z [.blk sp0 (Cel [v0_0_12,.int .i64 x0s,.int .i64 x0e,.int .i64 x0d] 126)] w∧RdZ Z v0_0_12 3 tkL s11) ?_ ?_
 rintro a w ⟨Z,s11,v0_0_12,hS,h,H,r0_0_12⟩
 subst eJ11
 refine rg fun K k=>cps 1 h rfl fun a h=>cz k ?_
 cases hS
 refine r1 hr h rfl rfl ⟨rfl,⟨_,H.hp.get 0 rfl,r0_0_12.sub (H.backO eB 0 rfl)⟩,H.outB⟩
 refine rg fun K k=>cps 1 h rfl fun a h=>?_
 obtain ⟨c13,hS⟩:=ck hS
 refine s1 (V:=.pointer (some ⟨2,Int.toNat x1,none⟩)) h rfl (v_idxArrP underlying208 Z9 rfl rfl c13) fun a h=>?_
 obtain ⟨le14,lf14,lv14⟩:=(hGX _ H.outB).lev
 refine sS h hS rfl (v_loadArrS rfl A9 lv14 rfl c13) fun z15 e15 hS a h=>?_
 obtain ⟨c17,hS⟩:=ck hS
 obtain ⟨z18,e18,hS⟩:=bv hS
 refine z_callR (data:=z18) h H rfl rfl rfl ((by rw [e18];exact dC call64 (lib_fields c17 (hGX _ H.outB)))) fun v36_19 Z w hsub X H r36_19 a h=>?_
 have rs0:=rs0.sub hsub
 refine s1 h rfl (v_len U116 rfl (r36_19.at H.zin)) fun a h=>cps 1 h rfl fun a h=>cN k h [0,5,36,37,38] O5 fun h=>?_
 refine lb ?_
 obtain ⟨B21,eB21,hS⟩:=bv hS
 refine lpJ (fun mu_ a w=>∃ (Z:FZ) (s21:Int × (List (Tk))) (v0_0_23:Value),loopF B21 mu_ s21=some res∧Fr 67 [(0,(pt sp0)),(5,S z9.s),(36,v36_19),(37,.int .i64 (z18.length:Int)),(38,.int .i64 s21.1)] a∧HZ B0 Zi Z [.blk sp0 (Cel [v0_0_23,.int .i64 x0s,.int .i64 x0e,.int .i64 x0d] 126)] w∧RdZ Z v0_0_23 3 tkL s21.2∧RdZ Z v36_19 1 eS z18) KK ⟨_,_,_,hS,h.to,H,rs0,r36_19⟩ ?_
 rintro mu_ a w ⟨Z,s21,v0_0_23,hS,h,H,r0_0_23,r36_19⟩
 obtain ⟨mu_,rfl,n21,en21,hS⟩:=lpX eB21 hS
 refine rg fun K k=>sB h hS rfl (v_lt rfl rfl) fun z24 e24 hS a h=>cz k<|sq<|cI h hS rfl (fun ec26 hS=>?_) fun ec26 hS=>?_
 refine c_skip<|sb ?_
 refine rg fun K k=>?_
 obtain ⟨c28,hS⟩:=ck hS
 obtain ⟨z29,e29,hS⟩:=bv hS
 refine st_idx h U116 Z9 rfl rfl (r36_19.at H.zin) (fun _=>rfl) z29 c28.1 (by rw [e29];exact gel_some c28) rfl fun a v40 A40 h=>?_
 refine s1 h rfl (v_loadAt1 rfl A40 A9 rfl) fun a h=>cps 1 h rfl fun a h=>cz k<|sq<|rg fun K k=>cps 2 h rfl fun a h=>sB h hS rfl (v_sne rfl rfl) fun z31 e31 hS a h=>cN k h [0,5,36,37,38,44] O6 fun h=>?_
 refine cI h hS rfl (fun ec32 hS=>?_) fun ec32 hS=>?_
 refine c_exit ?_
 refine c_lregion<|sI h hS rfl (v_addw rfl rfl) fun z33 e33 hS a h=>cps 1 h rfl fun a h=>c_lnil ?_
 exact exL (ex3 ⟨lpN en21 hS,h.to,H,r0_0_23,r36_19⟩)
 refine c_skip<|rg fun K k=>cps 2 h rfl fun a h=>s1 h rfl (v_nilCheck rfl) fun a h=>s1 h rfl (v_fieldAddr rfl U126 rfl Z118 rfl rfl) fun a h=>s1 h rfl (l1 H 0 isAgg118) fun a h=>?_
 obtain ⟨c34,hS⟩:=ck hS
 obtain ⟨z35,e35,hS⟩:=bv hS
 refine z_part_l (enc:=tkL) (sz:=3) (fun _=>rfl) h U118 Z158 rfl rfl r0_0_23 c34 rfl fun a v50_36 r50_36 h=>?_
 rw [←e35] at r50_36
 refine s1 h rfl (v_nilCheck rfl) fun a h=>s1 h rfl (v_fieldAddr rfl U126 rfl Z118 rfl rfl) fun a h=>z_store h H 0 rfl rfl rfl Z118 [v50_36] (by rw [r50_36.cells]) rfl (by obtain ⟨_,_,_,e_⟩:=(r50_36).form;subst e_;rfl) (by simp) O4 rfl (hl':=[_]) rfl fun w H=>?_
 refine cN k h [0,5,36,37,38] O5 fun h=>?_
 refine rg fun K k=>?_
 obtain ⟨c38,hS⟩:=ck hS
 obtain ⟨z39,e39,hS⟩:=bv hS
 refine z_callR (data:=z39) h H rfl rfl rfl ((by rw [e39];exact dC call64 (lib_fields c38 (hGX _ H.outB)))) fun v53_40 Z w hsub X H r53_40 a h=>?_
 have r36_19:=r36_19.sub hsub
 have r50_36:=r50_36.sub hsub
 refine s1 h rfl (v_len U116 rfl (r53_40.at H.zin)) fun a h=>cps 1 h rfl fun a h=>cz k<|lb ?_
 obtain ⟨B42,eB42,hS⟩:=bv hS
 refine lpJ (fun mu_ a w=>∃ (Z:FZ) (s42:Int),loopF B42 mu_ s42=some res∧Fr 67 [(0,(pt sp0)),(5,S z9.s),(36,v36_19),(37,.int .i64 (z18.length:Int)),(38,.int .i64 s21.1),(53,v53_40),(54,.int .i64 (z39.length:Int)),(55,.int .i64 s42)] a∧HZ B0 Zi Z [.blk sp0 (Cel [v50_36,.int .i64 x0s,.int .i64 x0e,.int .i64 x0d] 126)] w∧RdZ Z v36_19 1 eS z18∧RdZ Z v53_40 1 eS z39∧RdZ Z v50_36 3 tkL z35) KK ⟨_,_,hS,h.to,H,r36_19,r53_40,r50_36⟩ ?_
 rintro mu_ a w ⟨Z,s42,hS,h,H,r36_19,r53_40,r50_36⟩
 obtain ⟨mu_,rfl,n42,en42,hS⟩:=lpX eB42 hS
 refine rg fun K k=>sB h hS rfl (v_lt rfl rfl) fun z44 e44 hS a h=>cz k<|sq<|cI h hS rfl (fun ec46 hS=>?_) fun ec46 hS=>?_
 refine c_skip<|sb ?_
 refine rg fun K k=>cps 1 h rfl fun a h=>?_
 obtain ⟨c48,hS⟩:=ck hS
 obtain ⟨z49,e49,hS⟩:=bv hS
 refine st_idx h U116 Z9 rfl rfl (r53_40.at H.zin) (fun _=>rfl) z49 c48.1 (by rw [e49];exact gel_some c48) rfl fun a v58 A58 h=>?_
 refine s1 h rfl (v_loadAt1 rfl A58 A9 rfl) fun a h=>cps 2 h rfl fun a h=>cN k h [0,5,8,9,36,37,38,53,54,55] O10 fun h=>?_
 refine rg fun K k=>cps 2 h rfl fun a h=>sB h hS rfl (v_seq rfl rfl) fun z50 e50 hS a h=>cz k<|cI h hS rfl (fun ec51 hS=>?_) fun ec51 hS=>?_
 refine rg fun K k=>cps 1 h rfl fun a h=>sI h hS rfl (v_addw rfl rfl) fun z52 e52 hS a h=>cps 1 h rfl fun a h=>cN k h [4] [_] fun h=>?_
 cases hS
 refine r1 hr h rfl rfl ⟨rfl,⟨_,H.hp.get 0 rfl,r50_36.sub (H.backO eB 0 rfl)⟩,H.outB⟩
 refine c_skip<|cO h [0,5,36,37,38,53,54,55] O8 fun h=>?_
 refine c_lregion<|sI h hS rfl (v_addw rfl rfl) fun z53 e53 hS a h=>cps 1 h rfl fun a h=>c_lnil ?_
 exact exL (ex2 ⟨lpN en42 hS,h.to,H,r36_19,r53_40,r50_36⟩)
 refine c_exit ?_
 refine cO h [0,5,36,37,38] O5 fun h=>?_
 refine c_lregion<|sI h hS rfl (v_addw rfl rfl) fun z54 e54 hS a h=>cps 1 h rfl fun a h=>c_lnil ?_
 exact exL (ex3 ⟨lpN en21 hS,h.to,H,r50_36,r36_19⟩)
 exact c_exit (ex3 ⟨hS,h.to,H,r0_0_23⟩)
theorem parse_parser_primary_ok {x0:List Tk} {x0s:Int} {x0e:Int} {x0d:Int} {res:(Nd) × (List Tk)} {w0:World} (hS:parse_parser_primary x0 x0s x0e x0d=some res) {Z:FZ} (hZ:Z.inn w0) {sp0:Nat} {sv0:Value} (rs0:RdZ Z sv0 3 tkL x0) (hm0:w0.heap[sp0]?=some (Cel [sv0,.int .i64 x0s,.int .i64 x0e,.int .i64 x0d] 126)) (om0:Z sp0=none) {B0:Bs} (eB:B0=⟨w0,[sp0]⟩) {Zi:FZ} (eZ:Zi=Z) (hG:GWL w0):Calls Tryz.prog 145 [(pt sp0)].toArray w0 (Ret fun v w=>∃ u1,v=.agg #[.int .i64 res.1.k,.int .i64 res.1.op,.int .i64 res.1.v.k,.int .i64 res.1.v.n,S res.1.v.s,.int .i64 res.1.a.c.s,.int .i64 res.1.a.c.c,.int .i64 res.1.a.c.r,.bool res.1.a.ac,.bool res.1.a.ar,.int .i64 res.1.b.c.s,.int .i64 res.1.b.c.c,.int .i64 res.1.b.c.r,.bool res.1.b.ac,.bool res.1.b.ar,S res.1.nm,u1]∧RdN (ZB Zi w0.heap.size w) u1 nodeEnc res.1.l∧(∃ sv',w.heap[sp0]?=some (Cel [sv',.int .i64 x0s,.int .i64 x0e,.int .i64 x0d] 126)∧RdZ (ZB Zi w0.heap.size w) sv' 3 tkL res.2)∧ExtB B0 w):=by
 have H:HZ B0 Zi Z [.blk sp0 (Cel [sv0,.int .i64 x0s,.int .i64 x0e,.int .i64 x0d] 126)] w0:=by rw [eB,eZ];exact HZ.startLM hZ hm0 om0
 refine enG func145 [0] [_] fun Q a h hr hn=>?_
 have hGX:∀ w,ExtB B0 w→GWL w:=fun w X=>hG.extP rs0.form hm0 rfl eB X
 clear eZ
 have H:HZ B0 _ _ [_] _:=H
 unfold parse_parser_primary at hS
 refine rg fun K k=>z_box h H rfl [_] rfl rfl fun a p1 w X H h=>?_
 have H:HZ B0 _ _ O2 _:=H
 refine zA h H V33 O17 (fun x=>[_,_,x]) fun a p2 w X H h=>?_
 refine cz k<|sq<|rg fun K k=>s1 h rfl (l1 H 1 isAgg124) fun a h=>?_
 obtain ⟨y4,f4,hS⟩:=bo hS
 refine st2 h rfl rfl rfl (dC call143 (parse_parser_is_ok f4 H.zin rs0 (H.hp.get 0 rfl) (H.offI 0 rfl _ rfl) rfl rfl)) ?_
 rintro v_ w ⟨rfl,⟨sv_5,hm_5,rs_5⟩,X⟩ a h
 obtain ⟨Z,hsub,hadd,H⟩:=H.lentB 0 rfl hm_5 X (hl':=O3) rfl
 have rs_5:=rs_5.sub hadd
 have H:HZ B0 _ _ O3 _:=H
 refine cz k<|cI h hS rfl (fun ec6 hS=>?_) fun ec6 hS=>?_
 exact nomatch hS
 refine c_skip<|sq<|rg fun K k=>s1 h rfl (l1 H 1 isAgg124) fun a h=>s1 h rfl (v_nilCheck rfl) fun a h=>s1 h rfl (v_fieldAddr rfl U126 rfl Z118 rfl rfl) fun a h=>s1 h rfl (l1 H 0 isAgg118) fun a h=>s1 h rfl (v_len U118 rfl (rs_5.at H.zin)) fun a h=>sB h hS rfl (v_eq rfl rfl) fun z8 e8 hS a h=>cps 1 h rfl fun a h=>st_g h rfl rfl (gF rfl) rfl rfl (fun e0=>l1 H 1 isAgg124) fun a h=>?_
 refine st_g h rfl rfl (gF rfl) rfl rfl (fun e0=>v_nilCheck (eg e0 rfl)) fun a h=>?_
 refine st_g h rfl rfl (gF rfl) rfl rfl (fun e0=>v_fieldAddr (eg e0 rfl) U126 rfl Z118 rfl rfl) fun a h=>?_
 refine st_g h rfl rfl (gF rfl) rfl rfl (fun e0=>v_load1 (eg e0 rfl) isAgg118 (H.hp.get 0 rfl) rfl) fun a h=>?_
 obtain ⟨c9,hS⟩:=ck hS
 obtain ⟨z10,e10,hS⟩:=bv hS
 refine st_idxG h rfl (gF rfl) U118 Z158 (fun e0=>(eg e0 rfl)) (fun e0=>rfl) (rs_5.at H.zin) (fun _=>rfl) z10 (fun e0=>(c9 e0).1) (fun e0=>(by rw [e10];exact gel_some (c9 e0))) rfl fun a v28 A28 h=>?_
 refine st_fieldG h rfl (gF rfl) (fun e0=>(eg e0 rfl)) (fun e0=>(A28 e0)) U158 rfl Z3 rfl rfl rfl fun a v29 A29 h=>?_
 refine st_g h rfl rfl (gF rfl) rfl rfl (fun e0=>v_loadAt1 (eg e0 rfl) (A29 e0) A3 rfl) fun a h=>?_
 obtain ⟨z11,e11,hS⟩:=bv hS
 refine st_g h rfl rfl (gF rfl) rfl rfl (fun e0=>vB e11 (v_eq (eg e0 rfl) rfl)) fun a h=>?_
 refine sB h hS rfl (v_or rfl rfl) fun z12 e12 hS a h=>cN k h [1,2,32] O3 fun h=>?_
 refine cI h hS rfl (fun ec13 hS=>?_) fun ec13 hS=>?_
 exact nomatch hS
 refine c_skip<|rg fun K k=>s1 h rfl (l1 H 1 isAgg124) fun a h=>s1 h rfl (v_nilCheck rfl) fun a h=>s1 h rfl (v_fieldAddr rfl U126 rfl Z118 rfl rfl) fun a h=>s1 h rfl (l1 H 0 isAgg118) fun a h=>?_
 obtain ⟨c14,hS⟩:=ck hS
 obtain ⟨z15,e15,hS⟩:=bv hS
 refine st_idx h U118 Z158 rfl rfl (rs_5.at H.zin) (fun _=>rfl) z15 c14.1 (by rw [e15];exact gel_some c14) rfl fun a v39 A39 h=>?_
 refine s1 h rfl (v_loadAtA O3 rfl A39 isAgg158 Z158 rfl rfl) fun a h=>zA h H zeroValue158 O3 (fun x=>[_,_,_,x]) fun a p16 w X H h=>?_
 have A39:=At.ext A39 X
 refine zS h H 3 Z158 O3 O3 O4 fun w H=>?_
 refine cN k h [1,2,4] O3 fun h=>?_
 refine sq<|rg fun K k=>s1 h rfl (v_fieldAddr rfl U158 rfl Z3 rfl rfl) fun a h=>s1 h rfl (l1 H 3 A3) fun a h=>cz k<|lb<|rg fun K k=>sB h hS rfl (v_eq rfl rfl) fun z19 e19 hS a h=>cps 1 h rfl fun a h=>cz k<|cI h hS rfl (fun ec20 hS=>?_) fun ec20 hS=>?_
 refine rg fun K k=>s1 h rfl (v_fieldAddr rfl U158 rfl Z9 rfl rfl) fun a h=>s1 h rfl (l1 H 3 A9) fun a h=>sC h H hS rfl (fun y21 f21=>dC call159 (num_Parse_ok f21 :)) fun y21 hS w X H a h=>?_
 refine cps 5 h rfl fun a h=>cN k h [1,2,5,6] O4 fun h=>?_
 refine sq<|rg fun K k=>cps 1 h rfl fun a h=>sB h hS rfl (v_not rfl) fun z23 e23 hS a h=>cz k<|cI h hS rfl (fun ec24 hS=>?_) fun ec24 hS=>?_
 exact nomatch hS
 refine c_skip<|flT 8 h fun K k=>?_
 refine F1 rfl (fun w X=>have H:=H.ext X;l1 H 1 isAgg124) ?_
 refine F1 rfl (fun w X=>have H:=H.ext X;l1 H 1 isAgg124) ?_
 refine F1 rfl (fun w X=>v_nilCheck rfl) ?_
 refine F1 rfl (fun w X=>v_fieldAddr rfl U126 rfl Z118 rfl rfl) ?_
 refine F1 rfl (fun w X=>have H:=H.ext X;l1 H 0 isAgg118) ?_
 obtain ⟨c25,hS⟩:=ck hS
 obtain ⟨z26,e26,hS⟩:=bv hS
 refine f_op [59] rfl rfl rfl rfl false (.rel (fun w' v'=>RdZ (ZB Z w.heap.size w') v' 3 tkL z26)) rd_stab (fun w X=>?_) ?_
 skip
 exact have Hs:=ZB.of H.zin X;have H:=H.ext X;Does.doesR (d_part_l (enc:=tkL) (sz:=3) (fun _=>rfl) U118 Z158 rfl rfl rs_5 c25) (fun v w' hr=>by obtain ⟨hr,rfl⟩:=hr;exact ⟨by rw [e26];exact hr.sub Hs,Ext.refl _⟩)
 refine F1 rfl (fun w X=>v_nilCheck rfl) ?_
 refine F1 rfl (fun w X=>v_fieldAddr rfl U126 rfl Z118 rfl rfl) ?_
 refine fn_ ?_
 intro a w X hR hA
 obtain ⟨v60_27,r60_27,h⟩:=hR.out [2,5,60,62]
 have h:Fr 108 [(62,_),(60,_),(5,_),(2,_)] a:=h
 obtain ⟨Z,hsub,hadd,H⟩:=H.adopt' X
 have rs_5:=rs_5.sub hsub
 have r60_27:=r60_27.sub hadd
 refine z_store h H 0 rfl rfl rfl Z118 [v60_27] (by rw [r60_27.cells]) rfl (by obtain ⟨_,_,_,e_⟩:=(r60_27).form;subst e_;rfl) (by simp) O4 rfl (hl':=O4) rfl fun w H=>?_
 refine cz k<|rg fun K k=>cps 1 h rfl fun a h=>sC h H hS rfl (fun y28 f28=>dC call14 (value_Num_ok f28 :)) fun y28 hS w X H a h=>?_
 obtain ⟨y29,f29,hS⟩:=bo hS
 refine st2 h rfl rfl rfl (dC call32 (tree_Value_ok (x0:=y28) f29)) ?_
 rintro v_ w ⟨v65_30_1,rfl,r65_30_1,X⟩ a h
 obtain ⟨Z,hsub,hadd,H⟩:=H.adopt' X
 have r60_27:=r60_27.sub hsub
 have rs_5:=rs_5.sub hsub
 have r65_30_1:=r65_30_1.sub (ZB.empty.trans hadd)
 refine z_store h H 2 rfl rfl rfl Z33 O17 rfl rfl (by obtain ⟨_,_,_,e_⟩:=(r65_30_1).form;subst e_;rfl) (by simp) O17 rfl (hl':=O4) rfl fun w H=>?_
 refine cN k h [2] [_] fun h=>?_
 cases hS
 refine r1 hr h rfl (rvA H 2 A33 Z33 O17) ⟨_,rfl,r65_30_1.sub (H.backO eB 0 rfl),⟨_,H.hp.get 0 rfl,r60_27.sub (H.backO eB 0 rfl)⟩,H.outB⟩
 refine rg fun K k=>sB h hS rfl (v_eq rfl rfl) fun z31 e31 hS a h=>cps 1 h rfl fun a h=>cN k h [2,42,66] O3 fun h=>?_
 refine cI h hS rfl (fun ec32 hS=>?_) fun ec32 hS=>?_
 exact nomatch hS
 refine rg fun K k=>sB h hS rfl (v_eq rfl rfl) fun z33 e33 hS a h=>cps 1 h rfl fun a h=>cz k<|cI h hS rfl (fun ec34 hS=>?_) fun ec34 hS=>?_
 exact nomatch hS
 refine c_skip<|cO h [2] [_] fun h=>?_
 exact nomatch hS
theorem parse_parser_unary_ok {x0:List Tk} {x0s:Int} {x0e:Int} {x0d:Int} {res:(Nd) × (List Tk)} {w0:World} (hS:parse_parser_unary x0 x0s x0e x0d=some res) {Z:FZ} (hZ:Z.inn w0) {sp0:Nat} {sv0:Value} (rs0:RdZ Z sv0 3 tkL x0) (hm0:w0.heap[sp0]?=some (Cel [sv0,.int .i64 x0s,.int .i64 x0e,.int .i64 x0d] 126)) (om0:Z sp0=none) {B0:Bs} (eB:B0=⟨w0,[sp0]⟩) {Zi:FZ} (eZ:Zi=Z) (hG:GWL w0):Calls Tryz.prog 100 [(pt sp0)].toArray w0 (Ret fun v w=>∃ u1,v=.agg #[.int .i64 res.1.k,.int .i64 res.1.op,.int .i64 res.1.v.k,.int .i64 res.1.v.n,S res.1.v.s,.int .i64 res.1.a.c.s,.int .i64 res.1.a.c.c,.int .i64 res.1.a.c.r,.bool res.1.a.ac,.bool res.1.a.ar,.int .i64 res.1.b.c.s,.int .i64 res.1.b.c.c,.int .i64 res.1.b.c.r,.bool res.1.b.ac,.bool res.1.b.ar,S res.1.nm,u1]∧RdN (ZB Zi w0.heap.size w) u1 nodeEnc res.1.l∧(∃ sv',w.heap[sp0]?=some (Cel [sv',.int .i64 x0s,.int .i64 x0e,.int .i64 x0d] 126)∧RdZ (ZB Zi w0.heap.size w) sv' 3 tkL res.2)∧ExtB B0 w):=by
 have H:HZ B0 Zi Z [.blk sp0 (Cel [sv0,.int .i64 x0s,.int .i64 x0e,.int .i64 x0d] 126)] w0:=by rw [eB,eZ];exact HZ.startLM hZ hm0 om0
 refine enG func100 [0] [_] fun Q a h hr hn=>?_
 have hGX:∀ w,ExtB B0 w→GWL w:=fun w X=>hG.extP rs0.form hm0 rfl eB X
 clear eZ
 have H:HZ B0 _ _ [_] _:=H
 unfold parse_parser_unary at hS
 refine rg fun K k=>zA h H V33 O17 (fun x=>[_,x]) fun a p1 w X H h=>?_
 refine cz k<|sq<|rg fun K k=>cps 1 h rfl fun a h=>?_
 obtain ⟨y3,f3,hS⟩:=bo hS
 refine st2 h rfl rfl rfl (dC call143 (parse_parser_is_ok f3 H.zin rs0 (H.hp.get 0 rfl) (H.offI 0 rfl _ rfl) rfl rfl)) ?_
 rintro v_ w ⟨rfl,⟨sv_4,hm_4,rs_4⟩,X⟩ a h
 obtain ⟨Z,hsub,hadd,H⟩:=H.lentB 0 rfl hm_4 X (hl':=O2) rfl
 have rs_4:=rs_4.sub hadd
 have H:HZ B0 _ _ O2 _:=H
 refine cz k<|cI h hS rfl (fun ec5 hS=>?_) fun ec5 hS=>?_
 exact nomatch hS
 refine c_skip<|rg fun K k=>cps 1 h rfl fun a h=>?_
 obtain ⟨y6,f6,hS⟩:=bo hS
 refine st2 h rfl rfl rfl (dC call145 (parse_parser_primary_ok f6 H.zin rs_4 (H.hp.get 0 rfl) (H.offI 0 rfl _ rfl) rfl rfl (hGX _ H.outB))) ?_
 rintro v_ w ⟨v12_7_1,rfl,r12_7_1,⟨sv_7,hm_7,rs_7⟩,X⟩ a h
 obtain ⟨Z,hsub,hadd,H⟩:=H.lentB 0 rfl hm_7 X (hl':=O2) rfl
 have r12_7_1:=r12_7_1.sub hadd
 have rs_7:=rs_7.sub hadd
 have H:HZ B0 _ _ O2 _:=H
 refine zA h H V33 O17 (fun x=>[_,_,x]) fun a p8 w X H h=>?_
 refine z_store h H 2 rfl rfl rfl Z33 O17 rfl rfl (by obtain ⟨_,_,_,e_⟩:=(r12_7_1).form;subst e_;rfl) (by simp) O17 rfl (hl':=O3) rfl fun w H=>?_
 refine cN k h [0,2,3] O3 fun h=>?_
 obtain ⟨J10,eJ10,hS⟩:=bv hS
 refine sbJ (fun a w=>∃ (Z:FZ) (s10:(List (Tk))) (v0_0_11:Value),J10 s10=some res∧Fr 18 [(2,(pt p1)),(3,(pt p8))] a∧HZ B0 Zi Z [.blk sp0 (Cel [v0_0_11,.int .i64 x0s,.int .i64 x0e,.int .i64 x0d] 126),.blk p1 (Cel [.int .i64 0,.int .i64 0,.int .i64 0,.int .i64 0,S [],.int .i64 0,.int .i64 0,.int .i64 0,.bool false,.bool false,.int .i64 0,.int .i64 0,.int .i64 0,.bool false,.bool false,S [],.slice none 0 0] 33),.blk p8 (Cel (nL y6.1 v12_7_1) 33)] w∧RdZ Z v0_0_11 3 tkL s10∧RdN Z v12_7_1 nodeEnc y6.1.l) ?_ ?_
 rintro a w ⟨Z,s10,v0_0_11,hS,h,H,r0_0_11,r12_7_1⟩
 subst eJ10
 refine rg fun K k=>s1 h rfl (lA H 2 A33 Z33 O17) fun a h=>z_store h H 1 rfl rfl rfl Z33 O17 rfl rfl (by obtain ⟨_,_,_,e_⟩:=(r12_7_1).form;subst e_;rfl) (by simp) O17 rfl (hl':=O3) rfl fun w H=>?_
 refine cz k ?_
 cases hS
 refine r1 hr h rfl (rvA H 1 A33 Z33 O17) ⟨_,rfl,r12_7_1.sub (H.backO eB 0 rfl),⟨_,H.hp.get 0 rfl,r0_0_11.sub (H.backO eB 0 rfl)⟩,H.outB⟩
 obtain ⟨B12,eB12,hS⟩:=bv hS
 refine lpJ (fun mu_ a w=>∃ (Z:FZ) (s12:(List (Tk))) (v0_0_14:Value),loopF B12 mu_ s12=some res∧Fr 18 [(0,(pt sp0)),(2,(pt p1)),(3,(pt p8))] a∧HZ B0 Zi Z [.blk sp0 (Cel [v0_0_14,.int .i64 x0s,.int .i64 x0e,.int .i64 x0d] 126),.blk p1 (Cel [.int .i64 0,.int .i64 0,.int .i64 0,.int .i64 0,S [],.int .i64 0,.int .i64 0,.int .i64 0,.bool false,.bool false,.int .i64 0,.int .i64 0,.int .i64 0,.bool false,.bool false,S [],.slice none 0 0] 33),.blk p8 (Cel (nL y6.1 v12_7_1) 33)] w∧RdZ Z v0_0_14 3 tkL s12∧RdN Z v12_7_1 nodeEnc y6.1.l) KK ⟨_,_,_,hS,h.to,H,rs_7,r12_7_1⟩ ?_
 rintro mu_ a w ⟨Z,s12,v0_0_14,hS,h,H,r0_0_14,r12_7_1⟩
 obtain ⟨mu_,rfl,n12,en12,hS⟩:=lpX eB12 hS
 refine sq<|rg fun K k=>cps 1 h rfl fun a h=>?_
 obtain ⟨y16,f16,hS⟩:=bo hS
 refine st2 h rfl rfl rfl (dC call143 (parse_parser_is_ok f16 H.zin r0_0_14 (H.hp.get 0 rfl) (H.offI 0 rfl _ rfl) rfl rfl)) ?_
 rintro v_ w ⟨rfl,⟨sv_17,hm_17,rs_17⟩,X⟩ a h
 obtain ⟨Z,hsub,hadd,H⟩:=H.lentB 0 rfl hm_17 X (hl':=O3) rfl
 have r12_7_1:=r12_7_1.sub hsub
 have rs_17:=rs_17.sub hadd
 have H:HZ B0 _ _ O3 _:=H
 refine cz k<|cI h hS rfl (fun ec18 hS=>?_) fun ec18 hS=>?_
 refine c_skip<|lb ?_
 exact nomatch hS
 exact c_exit (ex3 ⟨hS,h.to,H,rs_17,r12_7_1⟩)
theorem parse_parser_expr_B_ok {rec:(List Tk)→Int→Int→Int→Int→Option ((Nd) × (List Tk))} (hrec:∀ {x0:List Tk} {x0s:Int} {x0e:Int} {x0d:Int} {x1:Int} {res:(Nd) × (List Tk)} {w0:World} (hS:rec x0 x0s x0e x0d x1=some res) {Z:FZ} (hZ:Z.inn w0) {sp0:Nat} {sv0:Value} (rs0:RdZ Z sv0 3 tkL x0) (hm0:w0.heap[sp0]?=some (Cel [sv0,.int .i64 x0s,.int .i64 x0e,.int .i64 x0d] 126)) (om0:Z sp0=none) {B0:Bs} (eB:B0=⟨w0,[sp0]⟩) {Zi:FZ} (eZ:Zi=Z) (hG:GWL w0),Calls Tryz.prog 71 [(pt sp0),.int .i64 x1].toArray w0 (Ret fun v w=>∃ u1,v=.agg #[.int .i64 res.1.k,.int .i64 res.1.op,.int .i64 res.1.v.k,.int .i64 res.1.v.n,S res.1.v.s,.int .i64 res.1.a.c.s,.int .i64 res.1.a.c.c,.int .i64 res.1.a.c.r,.bool res.1.a.ac,.bool res.1.a.ar,.int .i64 res.1.b.c.s,.int .i64 res.1.b.c.c,.int .i64 res.1.b.c.r,.bool res.1.b.ac,.bool res.1.b.ar,S res.1.nm,u1]∧RdN (ZB Zi w0.heap.size w) u1 nodeEnc res.1.l∧(∃ sv',w.heap[sp0]?=some (Cel [sv',.int .i64 x0s,.int .i64 x0e,.int .i64 x0d] 126)∧RdZ (ZB Zi w0.heap.size w) sv' 3 tkL res.2)∧ExtB B0 w)) {x0:List Tk} {x0s:Int} {x0e:Int} {x0d:Int} {x1:Int} {res:(Nd) × (List Tk)} {w0:World} (hS:parse_parser_expr_B rec x0 x0s x0e x0d x1=some res) {Z:FZ} (hZ:Z.inn w0) {sp0:Nat} {sv0:Value} (rs0:RdZ Z sv0 3 tkL x0) (hm0:w0.heap[sp0]?=some (Cel [sv0,.int .i64 x0s,.int .i64 x0e,.int .i64 x0d] 126)) (om0:Z sp0=none) {B0:Bs} (eB:B0=⟨w0,[sp0]⟩) {Zi:FZ} (eZ:Zi=Z) (hG:GWL w0):Calls Tryz.prog 71 [(pt sp0),.int .i64 x1].toArray w0 (Ret fun v w=>∃ u1,v=.agg #[.int .i64 res.1.k,.int .i64 res.1.op,.int .i64 res.1.v.k,.int .i64 res.1.v.n,S res.1.v.s,.int .i64 res.1.a.c.s,.int .i64 res.1.a.c.c,.int .i64 res.1.a.c.r,.bool res.1.a.ac,.bool res.1.a.ar,.int .i64 res.1.b.c.s,.int .i64 res.1.b.c.c,.int .i64 res.1.b.c.r,.bool res.1.b.ac,.bool res.1.b.ar,S res.1.nm,u1]∧RdN (ZB Zi w0.heap.size w) u1 nodeEnc res.1.l∧(∃ sv',w.heap[sp0]?=some (Cel [sv',.int .i64 x0s,.int .i64 x0e,.int .i64 x0d] 126)∧RdZ (ZB Zi w0.heap.size w) sv' 3 tkL res.2)∧ExtB B0 w):=by
 have H:HZ B0 Zi Z [.blk sp0 (Cel [sv0,.int .i64 x0s,.int .i64 x0e,.int .i64 x0d] 126)] w0:=by rw [eB,eZ];exact HZ.startLM hZ hm0 om0
 refine enG func71 [0,1] O2 fun Q a h hr hn=>?_
 have hGX:∀ w,ExtB B0 w→GWL w:=fun w X=>hG.extP rs0.form hm0 rfl eB X
 clear eZ
 have H:HZ B0 _ _ [_] _:=H
 unfold parse_parser_expr_B at hS
 refine rg fun K k=>zA h H V33 O17 (fun x=>[_,x]) fun a p1 w X H h=>?_
 refine cz k<|sq<|rg fun K k=>cps 1 h rfl fun a h=>sB h hS rfl (v_eq rfl rfl) fun z3 e3 hS a h=>cz k<|cI h hS rfl (fun ec4 hS=>?_) fun ec4 hS=>?_
 refine rg fun K k=>cps 1 h rfl fun a h=>?_
 obtain ⟨y5,f5,hS⟩:=bo hS
 refine st2 h rfl rfl rfl (dC call100 (parse_parser_unary_ok f5 H.zin rs0 (H.hp.get 0 rfl) (H.offI 0 rfl _ rfl) rfl rfl (hGX _ H.outB))) ?_
 rintro v_ w ⟨v10_6_1,rfl,r10_6_1,⟨sv_6,hm_6,rs_6⟩,X⟩ a h
 obtain ⟨Z,hsub,hadd,H⟩:=H.lentB 0 rfl hm_6 X (hl':=O2) rfl
 have r10_6_1:=r10_6_1.sub hadd
 have rs_6:=rs_6.sub hadd
 have H:HZ B0 _ _ O2 _:=H
 refine z_store h H 1 rfl rfl rfl Z33 O17 rfl rfl (by obtain ⟨_,_,_,e_⟩:=(r10_6_1).form;subst e_;rfl) (by simp) O17 rfl (hl':=O2) rfl fun w H=>?_
 refine cN k h [4] [_] fun h=>?_
 cases hS
 refine r1 hr h rfl (rvA H 1 A33 Z33 O17) ⟨_,rfl,r10_6_1.sub (H.backO eB 0 rfl),⟨_,H.hp.get 0 rfl,rs_6.sub (H.backO eB 0 rfl)⟩,H.outB⟩
 refine c_skip<|rg fun K k=>cps 2 h rfl fun a h=>sI h hS rfl (v_addw rfl rfl) fun z7 e7 hS a h=>?_
 obtain ⟨y8,f8,hS⟩:=bo hS
 refine st2 h rfl rfl rfl (dC call71 (hrec f8 H.zin rs0 (H.hp.get 0 rfl) (H.offI 0 rfl _ rfl) rfl rfl (hGX _ H.outB))) ?_
 rintro v_ w ⟨v14_9_1,rfl,r14_9_1,⟨sv_9,hm_9,rs_9⟩,X⟩ a h
 obtain ⟨Z,hsub,hadd,H⟩:=H.lentB 0 rfl hm_9 X (hl':=O2) rfl
 have r14_9_1:=r14_9_1.sub hadd
 have rs_9:=rs_9.sub hadd
 have H:HZ B0 _ _ O2 _:=H
 refine zA h H V33 O17 (fun x=>[_,_,x]) fun a p10 w X H h=>?_
 refine z_store h H 2 rfl rfl rfl Z33 O17 rfl rfl (by obtain ⟨_,_,_,e_⟩:=(r14_9_1).form;subst e_;rfl) (by simp) O17 rfl (hl':=O3) rfl fun w H=>?_
 refine cN k h [0,1,4,5] O4 fun h=>?_
 refine lb ?_
 obtain ⟨B12,eB12,hS⟩:=bv hS
 refine lpJ (fun mu_ a w=>∃ (Z:FZ) (s12:(List (Tk)) × Int × Int × Int × Int × (List UInt8) × Int × Int × Int × Bool × Bool × Int × Int × Int × Bool × Bool × (List UInt8) × (List (Nd)) × Int × Int × Int × Int × (List UInt8) × Int × Int × Int × Bool × Bool × Int × Int × Int × Bool × Bool × (List UInt8) × (List (Nd))) (v0_0_14:Value) (v1_16_15:Value) (v2_16_16:Value),loopF B12 mu_ s12=some res∧Fr 28 [(0,(pt sp0)),(1,.int .i64 x1),(4,(pt p1)),(5,(pt p10))] a∧HZ B0 Zi Z [.blk sp0 (Cel [v0_0_14,.int .i64 x0s,.int .i64 x0e,.int .i64 x0d] 126),.blk p1 (Cel [.int .i64 s12.2.1,.int .i64 s12.2.2.1,.int .i64 s12.2.2.2.1,.int .i64 s12.2.2.2.2.1,S s12.2.2.2.2.2.1,.int .i64 s12.2.2.2.2.2.2.1,.int .i64 s12.2.2.2.2.2.2.2.1,.int .i64 s12.2.2.2.2.2.2.2.2.1,.bool s12.2.2.2.2.2.2.2.2.2.1,.bool s12.2.2.2.2.2.2.2.2.2.2.1,.int .i64 s12.2.2.2.2.2.2.2.2.2.2.2.1,.int .i64 s12.2.2.2.2.2.2.2.2.2.2.2.2.1,.int .i64 s12.2.2.2.2.2.2.2.2.2.2.2.2.2.1,.bool s12.2.2.2.2.2.2.2.2.2.2.2.2.2.2.1,.bool s12.2.2.2.2.2.2.2.2.2.2.2.2.2.2.2.1,S s12.2.2.2.2.2.2.2.2.2.2.2.2.2.2.2.2.1,v1_16_15] 33),.blk p10 (Cel [.int .i64 s12.2.2.2.2.2.2.2.2.2.2.2.2.2.2.2.2.2.2.1,.int .i64 s12.2.2.2.2.2.2.2.2.2.2.2.2.2.2.2.2.2.2.2.1,.int .i64 s12.2.2.2.2.2.2.2.2.2.2.2.2.2.2.2.2.2.2.2.2.1,.int .i64 s12.2.2.2.2.2.2.2.2.2.2.2.2.2.2.2.2.2.2.2.2.2.1,S s12.2.2.2.2.2.2.2.2.2.2.2.2.2.2.2.2.2.2.2.2.2.2.1,.int .i64 s12.2.2.2.2.2.2.2.2.2.2.2.2.2.2.2.2.2.2.2.2.2.2.2.1,.int .i64 s12.2.2.2.2.2.2.2.2.2.2.2.2.2.2.2.2.2.2.2.2.2.2.2.2.1,.int .i64 s12.2.2.2.2.2.2.2.2.2.2.2.2.2.2.2.2.2.2.2.2.2.2.2.2.2.1,.bool s12.2.2.2.2.2.2.2.2.2.2.2.2.2.2.2.2.2.2.2.2.2.2.2.2.2.2.1,.bool s12.2.2.2.2.2.2.2.2.2.2.2.2.2.2.2.2.2.2.2.2.2.2.2.2.2.2.2.1,.int .i64 s12.2.2.2.2.2.2.2.2.2.2.2.2.2.2.2.2.2.2.2.2.2.2.2.2.2.2.2.2.1,.int .i64 s12.2.2.2.2.2.2.2.2.2.2.2.2.2.2.2.2.2.2.2.2.2.2.2.2.2.2.2.2.2.1,.int .i64 s12.2.2.2.2.2.2.2.2.2.2.2.2.2.2.2.2.2.2.2.2.2.2.2.2.2.2.2.2.2.2.1,.bool s12.2.2.2.2.2.2.2.2.2.2.2.2.2.2.2.2.2.2.2.2.2.2.2.2.2.2.2.2.2.2.2.1,.bool s12.2.2.2.2.2.2.2.2.2.2.2.2.2.2.2.2.2.2.2.2.2.2.2.2.2.2.2.2.2.2.2.2.1,S s12.2.2.2.2.2.2.2.2.2.2.2.2.2.2.2.2.2.2.2.2.2.2.2.2.2.2.2.2.2.2.2.2.2.1,v2_16_16] 33)] w∧RdZ Z v0_0_14 3 tkL s12.1∧RdN Z v1_16_15 nodeEnc s12.2.2.2.2.2.2.2.2.2.2.2.2.2.2.2.2.2.1∧RdN Z v2_16_16 nodeEnc s12.2.2.2.2.2.2.2.2.2.2.2.2.2.2.2.2.2.2.2.2.2.2.2.2.2.2.2.2.2.2.2.2.2.2) KK ⟨_,_,_,_,_,hS,h.to,H,rs_9,RdN.nil,r14_9_1⟩ ?_
 rintro mu_ a w ⟨Z,s12,v0_0_14,v1_16_15,v2_16_16,hS,h,H,r0_0_14,r1_16_15,r2_16_16⟩
 obtain ⟨mu_,rfl,n12,en12,hS⟩:=lpX eB12 hS
 refine lb<|rg fun K k=>cps 2 h rfl fun a h=>?_
 obtain ⟨y18,f18,hS⟩:=bo hS
 refine st2 h rfl rfl rfl (dC call101 (parse_parser_op_ok f18 H.zin r0_0_14 (H.hp.get 0 rfl) (H.offI 0 rfl _ rfl) rfl rfl (hGX _ H.outB))) ?_
 rintro v_ w ⟨rfl,⟨sv_19,hm_19,rs_19⟩,X⟩ a h
 obtain ⟨Z,hsub,hadd,H⟩:=H.lentB 0 rfl hm_19 X (hl':=O3) rfl
 have r1_16_15:=r1_16_15.sub hsub
 have r2_16_16:=r2_16_16.sub hsub
 have rs_19:=rs_19.sub hadd
 have H:HZ B0 _ _ O3 _:=H
 refine cps 1 h rfl fun a h=>cz k<|sq<|rg fun K k=>cps 1 h rfl fun a h=>sB h hS rfl (v_eq rfl rfl) fun z21 e21 hS a h=>cN k h [0,1,4,5,6,19] O6 fun h=>?_
 refine cI h hS rfl (fun ec22 hS=>?_) fun ec22 hS=>?_
 refine rg fun K k=>s1 h rfl (lA H 2 A33 Z33 O17) fun a h=>z_store h H 1 rfl rfl rfl Z33 O17 rfl rfl (by obtain ⟨_,_,_,e_⟩:=(r2_16_16).form;subst e_;rfl) (by simp) O17 rfl (hl':=O3) rfl fun w H=>?_
 refine cN k h [4] [_] fun h=>?_
 cases hS
 refine r1 hr h rfl (rvA H 1 A33 Z33 O17) ⟨_,rfl,r2_16_16.sub (H.backO eB 0 rfl),⟨_,H.hp.get 0 rfl,rs_19.sub (H.backO eB 0 rfl)⟩,H.outB⟩
 refine c_skip<|c_lanyC 0 6 H (fun w H=>?_)
 refine aC_hoist 0 [6,7] h rfl (fun w H=>v_move rfl) kR rfl (fun a h=>?_)
 refine aC_hoist 1 [6,7] h rfl (fun w H=>lA H 2 A33 Z33 O17) kR rfl (fun a h=>?_)
 refine aC_hoist 2 [5,6,7] h rfl (fun w H=>v_move rfl) kR rfl (fun a h=>?_)
 refine aC_hoist 3 [4,5,6,7] h rfl (fun w H=>v_move rfl) kR rfl (fun a h=>?_)
 obtain ⟨z23,e23,hS⟩:=bv hS
 refine aC_hoist 4 [5,6,7] h rfl (fun w H=>vI e23 (v_addw rfl rfl)) kR rfl (fun a h=>?_)
 obtain ⟨y24,f24,hS⟩:=bo hS
 have zs_:=H.sub
 refine aC_op 5 h rfl kR (fun _=>H.dead1 0) (Does.goes h (dC call71 (hrec f24 H.zin rs_19 (H.hp.get 0 rfl) (H.offI 0 rfl _ rfl) rfl rfl (hGX _ H.outB)))) rfl ?_
 rintro v_ w a ⟨v26_25_1,rfl,r26_25_1,⟨sv_25,hm_25,rs_25⟩,X⟩ h
 obtain ⟨Z,hsub,hadd,H⟩:=H.lentB 0 rfl hm_25 X (hl':=O3) rfl
 have hsq:=hsub
 have r1_16_15:=r1_16_15.sub hsub
 have r2_16_16:=r2_16_16.sub hsub
 have r26_25_1:=r26_25_1.sub hadd
 have rs_25:=rs_25.sub hadd
 have H:HZ B0 _ _ O3 _:=H
 obtain ⟨y26,f26,hS⟩:=bo hS
 refine aC_op 6 h rfl kR (fun _=>(H.weak hsq zs_).dead1 0) (Does.goes h (dC call36 (tree_Binary_ok (x0:=y18.1) (x1:=(⟨s12.2.2.2.2.2.2.2.2.2.2.2.2.2.2.2.2.2.2.1,s12.2.2.2.2.2.2.2.2.2.2.2.2.2.2.2.2.2.2.2.1,(⟨s12.2.2.2.2.2.2.2.2.2.2.2.2.2.2.2.2.2.2.2.2.1,s12.2.2.2.2.2.2.2.2.2.2.2.2.2.2.2.2.2.2.2.2.2.1,s12.2.2.2.2.2.2.2.2.2.2.2.2.2.2.2.2.2.2.2.2.2.2.1⟩:V),(⟨(⟨s12.2.2.2.2.2.2.2.2.2.2.2.2.2.2.2.2.2.2.2.2.2.2.2.1,s12.2.2.2.2.2.2.2.2.2.2.2.2.2.2.2.2.2.2.2.2.2.2.2.2.1,s12.2.2.2.2.2.2.2.2.2.2.2.2.2.2.2.2.2.2.2.2.2.2.2.2.2.1⟩:C),s12.2.2.2.2.2.2.2.2.2.2.2.2.2.2.2.2.2.2.2.2.2.2.2.2.2.2.1,s12.2.2.2.2.2.2.2.2.2.2.2.2.2.2.2.2.2.2.2.2.2.2.2.2.2.2.2.1⟩:Rf),(⟨(⟨s12.2.2.2.2.2.2.2.2.2.2.2.2.2.2.2.2.2.2.2.2.2.2.2.2.2.2.2.2.1,s12.2.2.2.2.2.2.2.2.2.2.2.2.2.2.2.2.2.2.2.2.2.2.2.2.2.2.2.2.2.1,s12.2.2.2.2.2.2.2.2.2.2.2.2.2.2.2.2.2.2.2.2.2.2.2.2.2.2.2.2.2.2.1⟩:C),s12.2.2.2.2.2.2.2.2.2.2.2.2.2.2.2.2.2.2.2.2.2.2.2.2.2.2.2.2.2.2.2.1,s12.2.2.2.2.2.2.2.2.2.2.2.2.2.2.2.2.2.2.2.2.2.2.2.2.2.2.2.2.2.2.2.2.1⟩:Rf),s12.2.2.2.2.2.2.2.2.2.2.2.2.2.2.2.2.2.2.2.2.2.2.2.2.2.2.2.2.2.2.2.2.2.1,s12.2.2.2.2.2.2.2.2.2.2.2.2.2.2.2.2.2.2.2.2.2.2.2.2.2.2.2.2.2.2.2.2.2.2⟩:Nd)) (x2:=y24.1) f26 H.zin r2_16_16 r26_25_1))) rfl ?_
 rintro v_ w a ⟨v27_27_1,rfl,r27_27_1,X⟩ h
 obtain ⟨Z,hsub,hadd,H⟩:=H.adopt' X
 have r1_16_15:=r1_16_15.sub hsub
 have r26_25_1:=r26_25_1.sub hsub
 have r2_16_16:=r2_16_16.sub hsub
 have rs_25:=rs_25.sub hsub
 have r27_27_1:=r27_27_1.sub hadd
 refine aC_st 7 h rfl kR (fun hq=>nomatch hq) (goes_of_list (ops:=#[]) (z_store h H 2 rfl rfl rfl Z33 O17 rfl rfl (by obtain ⟨_,_,_,e_⟩:=(r27_27_1).form;subst e_;rfl) (by simp) O17 rfl (hl':=O3) rfl fun w H=>rb_nil ⟨rfl,H⟩)) rfl ?_
 rintro _ w a H h
 have H:HZ B0 _ _ O3 _:=H
 refine aC_end (fun hq=>nomatch hq) kR ?_
 exact exL (ex5 ⟨lpN en12 hS,h.to,H,rs_25,r1_16_15,r27_27_1⟩)
theorem parse_parser_expr_ok (k:Nat):∀ {x0:List Tk} {x0s:Int} {x0e:Int} {x0d:Int} {x1:Int} {res:(Nd) × (List Tk)} {w0:World} (hS:parse_parser_expr k x0 x0s x0e x0d x1=some res) {Z:FZ} (hZ:Z.inn w0) {sp0:Nat} {sv0:Value} (rs0:RdZ Z sv0 3 tkL x0) (hm0:w0.heap[sp0]?=some (Cel [sv0,.int .i64 x0s,.int .i64 x0e,.int .i64 x0d] 126)) (om0:Z sp0=none) {B0:Bs} (eB:B0=⟨w0,[sp0]⟩) {Zi:FZ} (eZ:Zi=Z) (hG:GWL w0),Calls Tryz.prog 71 [(pt sp0),.int .i64 x1].toArray w0 (Ret fun v w=>∃ u1,v=.agg #[.int .i64 res.1.k,.int .i64 res.1.op,.int .i64 res.1.v.k,.int .i64 res.1.v.n,S res.1.v.s,.int .i64 res.1.a.c.s,.int .i64 res.1.a.c.c,.int .i64 res.1.a.c.r,.bool res.1.a.ac,.bool res.1.a.ar,.int .i64 res.1.b.c.s,.int .i64 res.1.b.c.c,.int .i64 res.1.b.c.r,.bool res.1.b.ac,.bool res.1.b.ar,S res.1.nm,u1]∧RdN (ZB Zi w0.heap.size w) u1 nodeEnc res.1.l∧(∃ sv',w.heap[sp0]?=some (Cel [sv',.int .i64 x0s,.int .i64 x0e,.int .i64 x0d] 126)∧RdZ (ZB Zi w0.heap.size w) sv' 3 tkL res.2)∧ExtB B0 w):=by
 induction k with
 |zero=>intro x0 x0s x0e x0d x1 res w0 hS;exact nomatch (show (none:Option ((Nd) × (List Tk)))=some res from hS)
 |succ k ih=>exact @parse_parser_expr_B_ok (parse_parser_expr k) @ih
end Go.Proofs.YtcecjdnkcbfhlaaGreatDoor
