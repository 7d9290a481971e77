/- Joined texts. -/
import Derived.Test.YtcecjdnkcbfhlaaGreatDoorQU0
import Derived.Test.YtcecjdnkcbfhlaaGreatDoorQpWkOf
set_option linter.unusedSimpArgs false
set_option linter.unusedVariables false
set_option linter.unusedSectionVars false
namespace Go.Proofs.YtcecjdnkcbfhlaaGreatDoor
open Go.Stp Go.RowKit Go.ValP Go.Sp _root_.Go.Proofs.Tryz
set_option maxRecDepth 100000
theorem tree_kids_ok {x0 : Nd} {res : Bool} {w0 : World} (hS : tree_kids x0 = some res) {xv0 : Value} (rp0 : RdN (hz w0) xv0 nodeEnc x0.l) (hG : GW w0) : Calls Tryz.prog 93 [.agg #[.int .i64 x0.k, .int .i64 x0.op, .int .i64 x0.v.k, .int .i64 x0.v.n, S x0.v.s, .int .i64 x0.a.c.s, .int .i64 x0.a.c.c, .int .i64 x0.a.c.r, .bool x0.a.ac, .bool x0.a.ar, .int .i64 x0.b.c.s, .int .i64 x0.b.c.c, .int .i64 x0.b.c.r, .bool x0.b.ac, .bool x0.b.ar, S x0.nm, xv0]].toArray w0 (Ret fun v w => v = .bool res ∧ Ext w0 w) := by
 refine en func93 [0] [_] fun Q a Zi Z hzs H h hr => ?_
 have rp0 := rp0.sub hzs
 clear hzs
 unfold tree_kids at hS
 refine rg fun K k => ?_
 refine z_box h H rfl [_, _, _, _, _, _, _, _, _, _, _, _, _, _, _, _, _] rfl rfl fun a p1 w X H h => ?_
 have H : HZ w0 _ _ [_] _ := H
 refine cps 1 h rfl fun a h => ?_
 refine cz k ?_
 refine sq ?_
 refine rg fun K k => ?_
 refine s1 h rfl (v_fieldAddr rfl underlying33 rfl sizeOf3 rfl rfl) fun a h => ?_
 refine s1 h rfl (l1 H 0 isAgg3) fun a h => ?_
 refine cz k ?_
 refine lb ?_
 obtain ⟨J5, eJ5, hS⟩ := bv hS
 refine sqJ (fun a w => ∃ (Z : FZ) (s5 : Bool), J5 s5 = some res ∧ Fr 99 [(1, .pointer (some ⟨p1, 0, none⟩)), (4, .int .i64 x0.k), (5, .bool s5)] a ∧ HZ w0 Zi Z [.blk p1 (Cel [.int .i64 x0.k, .int .i64 x0.op, .int .i64 x0.v.k, .int .i64 x0.v.n, S x0.v.s, .int .i64 x0.a.c.s, .int .i64 x0.a.c.c, .int .i64 x0.a.c.r, .bool x0.a.ac, .bool x0.a.ar, .int .i64 x0.b.c.s, .int .i64 x0.b.c.c, .int .i64 x0.b.c.r, .bool x0.b.ac, .bool x0.b.ar, S x0.nm, xv0] 33)] w ∧ RdN Z xv0 nodeEnc x0.l) ?_ ?_
 rintro a w ⟨Z, s5, hS, h, H, rp0⟩
 subst eJ5
 refine cI h hS rfl (fun ec6 hS => ?_) fun ec6 hS => ?_
 refine rg fun K k => ?_
 refine s1 h rfl (v_fieldAddr rfl underlying33 rfl sizeOf31 rfl rfl) fun a h => ?_
 refine s1 h rfl (l1 H 0 isAgg31) fun a h => ?_
 refine s1 h rfl (v_lenN underlying31 rfl rp0 H.zin) fun a h => ?_
 refine sB h hS rfl (v_eq rfl rfl) fun z7 e7 hS a h => ?_
 refine cps 1 h rfl fun a h => ?_
 refine cN k h [2] [_] fun h => ?_
 cases hS
 refine r1 hr h rfl rfl ⟨rfl, H.out⟩
 refine rg fun K k => ?_
 refine sB h hS rfl (v_eq rfl rfl) fun z8 e8 hS a h => ?_
 refine cps 1 h rfl fun a h => ?_
 refine cz k ?_
 refine cI h hS rfl (fun ec9 hS => ?_) fun ec9 hS => ?_
 refine rg fun K k => ?_
 refine s1 h rfl (v_fieldAddr rfl underlying33 rfl sizeOf31 rfl rfl) fun a h => ?_
 refine s1 h rfl (l1 H 0 isAgg31) fun a h => ?_
 refine s1 h rfl (v_lenN underlying31 rfl rp0 H.zin) fun a h => ?_
 refine sB h hS rfl (v_eq rfl rfl) fun z10 e10 hS a h => ?_
 refine cps 1 h rfl fun a h => ?_
 refine st_g h rfl rfl (gT rfl) rfl rfl (fun e0 => v_fieldAddr rfl underlying33 rfl sizeOf3 rfl rfl) fun a h => ?_
 refine st_g h rfl rfl (gT rfl) rfl rfl (fun e0 => v_load1 (eg e0 rfl) isAgg3 (H.hp.get 0 rfl) rfl) fun a h => ?_
 obtain ⟨z11, e11, hS⟩ := bv hS
 refine st_g h rfl rfl (gT rfl) rfl rfl (fun e0 => vB e11 (v_ge (eg e0 rfl) rfl)) fun a h => ?_
 refine sB h hS rfl (v_and rfl rfl) fun z12 e12 hS a h => ?_
 refine cps 1 h rfl fun a h => ?_
 refine st_g h rfl rfl (gT rfl) rfl rfl (fun e0 => v_fieldAddr rfl underlying33 rfl sizeOf3 rfl rfl) fun a h => ?_
 refine st_g h rfl rfl (gT rfl) rfl rfl (fun e0 => v_load1 (eg e0 rfl) isAgg3 (H.hp.get 0 rfl) rfl) fun a h => ?_
 obtain ⟨z13, e13, hS⟩ := bv hS
 refine st_g h rfl rfl (gT rfl) rfl rfl (fun e0 => vB e13 (v_le (eg e0 rfl) rfl)) fun a h => ?_
 refine sB h hS rfl (v_and rfl rfl) fun z14 e14 hS a h => ?_
 refine cps 1 h rfl fun a h => ?_
 refine cN k h [2] [_] fun h => ?_
 cases hS
 refine r1 hr h rfl rfl ⟨rfl, H.out⟩
 refine rg fun K k => ?_
 refine sB h hS rfl (v_eq rfl rfl) fun z15 e15 hS a h => ?_
 refine cps 1 h rfl fun a h => ?_
 refine cN k h [1, 4, 28] [_, _, _] fun h => ?_
 refine cI h hS rfl (fun ec16 hS => ?_) fun ec16 hS => ?_
 refine rg fun K k => ?_
 refine s1 h rfl (v_fieldAddr rfl underlying33 rfl sizeOf3 rfl rfl) fun a h => ?_
 refine s1 h rfl (l1 H 0 isAgg3) fun a h => ?_
 refine s1 h rfl (v_fieldAddr rfl underlying33 rfl sizeOf31 rfl rfl) fun a h => ?_
 refine s1 h rfl (l1 H 0 isAgg31) fun a h => ?_
 refine s1 h rfl (v_lenN underlying31 rfl rp0 H.zin) fun a h => ?_
 refine sC h H hS rfl (fun y17 f17 => dC call49 (tree_Fits_ok f17 (hG.ext H.out) :)) fun y17 hS w X H a h => ?_
 refine cps 1 h rfl fun a h => ?_
 refine cN k h [2] [_] fun h => ?_
 cases hS
 refine r1 hr h rfl rfl ⟨rfl, H.out⟩
 refine rg fun K k => ?_
 refine sB h hS rfl (v_eq rfl rfl) fun z18 e18 hS a h => ?_
 refine cps 1 h rfl fun a h => ?_
 refine cz k ?_
 refine cI h hS rfl (fun ec19 hS => ?_) fun ec19 hS => ?_
 refine rg fun K k => ?_
 refine s1 h rfl (v_fieldAddr rfl underlying33 rfl sizeOf31 rfl rfl) fun a h => ?_
 refine s1 h rfl (l1 H 0 isAgg31) fun a h => ?_
 refine s1 h rfl (v_lenN underlying31 rfl rp0 H.zin) fun a h => ?_
 refine sB h hS rfl (v_eq rfl rfl) fun z20 e20 hS a h => ?_
 refine cps 1 h rfl fun a h => ?_
 refine st_g h rfl rfl (gT rfl) rfl rfl (fun e0 => v_fieldAddr rfl underlying33 rfl sizeOf26 rfl rfl) fun a h => ?_
 refine st_g h rfl rfl (gT rfl) rfl rfl (fun e0 => v_loadA [_, _, _] (eg e0 rfl) isAgg26 sizeOf26 (H.hp.get 0 rfl) rfl rfl) fun a h => ?_
 obtain ⟨y21, f21, hS⟩ := bo hS
 refine st_gd (T := Ext) (V := .bool y21) h rfl rfl (gT rfl) rfl rfl (Ext.refl _) (fun e0 => d_call [_] (evs_c (eg e0 rfl) evs_n) call63 (value_Right_ok (x0 := x0.v) (ifT e0 f21))) fun w X a h => ?_
 have H := H.ext X
 refine sB h hS rfl (v_and rfl rfl) fun z22 e22 hS a h => ?_
 refine cps 1 h rfl fun a h => ?_
 refine cN k h [2] [_] fun h => ?_
 cases hS
 refine r1 hr h rfl rfl ⟨rfl, H.out⟩
 refine rg fun K k => ?_
 refine sB h hS rfl (v_eq rfl rfl) fun z23 e23 hS a h => ?_
 refine cps 1 h rfl fun a h => ?_
 refine cN k h [1, 4, 47] [_, _, _] fun h => ?_
 refine cI h hS rfl (fun ec24 hS => ?_) fun ec24 hS => ?_
 refine rg fun K k => ?_
 refine s1 h rfl (v_fieldAddr rfl underlying33 rfl sizeOf31 rfl rfl) fun a h => ?_
 refine s1 h rfl (l1 H 0 isAgg31) fun a h => ?_
 refine s1 h rfl (v_lenN underlying31 rfl rp0 H.zin) fun a h => ?_
 refine sB h hS rfl (v_eq rfl rfl) fun z25 e25 hS a h => ?_
 refine cps 1 h rfl fun a h => ?_
 refine st_g h rfl rfl (gT rfl) rfl rfl (fun e0 => v_fieldAddr rfl underlying33 rfl sizeOf30 rfl rfl) fun a h => ?_
 refine st_g h rfl rfl (gT rfl) rfl rfl (fun e0 => v_fieldAddr (eg e0 rfl) underlying30 rfl sizeOf28 rfl rfl) fun a h => ?_
 refine st_g h rfl rfl (gT rfl) rfl rfl (fun e0 => v_loadA [_, _, _] (eg e0 rfl) isAgg28 sizeOf28 (H.hp.get 0 rfl) rfl rfl) fun a h => ?_
 obtain ⟨y26, f26, hS⟩ := bo hS
 refine st_gd (T := Ext) (V := .bool y26) h rfl rfl (gT rfl) rfl rfl (Ext.refl _) (fun e0 => d_call [_] (evs_c (eg e0 rfl) evs_n) call134 (addr_Right_ok (x0 := x0.a.c) (ifT e0 f26))) fun w X a h => ?_
 have H := H.ext X
 refine sB h hS rfl (v_and rfl rfl) fun z27 e27 hS a h => ?_
 refine cps 1 h rfl fun a h => ?_
 refine cN k h [2] [_] fun h => ?_
 cases hS
 refine r1 hr h rfl rfl ⟨rfl, H.out⟩
 refine rg fun K k => ?_
 refine sB h hS rfl (v_eq rfl rfl) fun z28 e28 hS a h => ?_
 refine cps 1 h rfl fun a h => ?_
 refine cz k ?_
 refine cI h hS rfl (fun ec29 hS => ?_) fun ec29 hS => ?_
 refine rg fun K k => ?_
 refine s1 h rfl (v_fieldAddr rfl underlying33 rfl sizeOf31 rfl rfl) fun a h => ?_
 refine s1 h rfl (l1 H 0 isAgg31) fun a h => ?_
 refine s1 h rfl (v_lenN underlying31 rfl rp0 H.zin) fun a h => ?_
 refine sB h hS rfl (v_eq rfl rfl) fun z30 e30 hS a h => ?_
 refine cps 1 h rfl fun a h => ?_
 refine st_g h rfl rfl (gT rfl) rfl rfl (fun e0 => v_fieldAddr rfl underlying33 rfl sizeOf30 rfl rfl) fun a h => ?_
 refine st_g h rfl rfl (gT rfl) rfl rfl (fun e0 => v_fieldAddr (eg e0 rfl) underlying30 rfl sizeOf28 rfl rfl) fun a h => ?_
 refine st_g h rfl rfl (gT rfl) rfl rfl (fun e0 => v_loadA [_, _, _] (eg e0 rfl) isAgg28 sizeOf28 (H.hp.get 0 rfl) rfl rfl) fun a h => ?_
 obtain ⟨y31, f31, hS⟩ := bo hS
 refine st_gd (T := Ext) (V := .bool y31) h rfl rfl (gT rfl) rfl rfl (Ext.refl _) (fun e0 => d_call [_] (evs_c (eg e0 rfl) evs_n) call134 (addr_Right_ok (x0 := x0.a.c) (ifT e0 f31))) fun w X a h => ?_
 have H := H.ext X
 refine sB h hS rfl (v_and rfl rfl) fun z32 e32 hS a h => ?_
 refine cps 1 h rfl fun a h => ?_
 refine st_g h rfl rfl (gT rfl) rfl rfl (fun e0 => v_fieldAddr rfl underlying33 rfl sizeOf30 rfl rfl) fun a h => ?_
 refine st_g h rfl rfl (gT rfl) rfl rfl (fun e0 => v_fieldAddr (eg e0 rfl) underlying30 rfl sizeOf28 rfl rfl) fun a h => ?_
 refine st_g h rfl rfl (gT rfl) rfl rfl (fun e0 => v_loadA [_, _, _] (eg e0 rfl) isAgg28 sizeOf28 (H.hp.get 0 rfl) rfl rfl) fun a h => ?_
 obtain ⟨y33, f33, hS⟩ := bo hS
 refine st_gd (T := Ext) (V := .bool y33) h rfl rfl (gT rfl) rfl rfl (Ext.refl _) (fun e0 => d_call [_] (evs_c (eg e0 rfl) evs_n) call134 (addr_Right_ok (x0 := x0.b.c) (ifT e0 f33))) fun w X a h => ?_
 have H := H.ext X
 refine sB h hS rfl (v_and rfl rfl) fun z34 e34 hS a h => ?_
 refine cps 1 h rfl fun a h => ?_
 refine st_g h rfl rfl (gT rfl) rfl rfl (fun e0 => v_fieldAddr rfl underlying33 rfl sizeOf30 rfl rfl) fun a h => ?_
 refine st_g h rfl rfl (gT rfl) rfl rfl (fun e0 => v_fieldAddr (eg e0 rfl) underlying30 rfl sizeOf28 rfl rfl) fun a h => ?_
 refine st_g h rfl rfl (gT rfl) rfl rfl (fun e0 => v_fieldAddr (eg e0 rfl) underlying28 rfl sizeOf3 rfl rfl) fun a h => ?_
 refine st_g h rfl rfl (gT rfl) rfl rfl (fun e0 => v_load1 (eg e0 rfl) isAgg3 (H.hp.get 0 rfl) rfl) fun a h => ?_
 refine st_g h rfl rfl (gT rfl) rfl rfl (fun e0 => v_fieldAddr rfl underlying33 rfl sizeOf30 rfl rfl) fun a h => ?_
 refine st_g h rfl rfl (gT rfl) rfl rfl (fun e0 => v_fieldAddr (eg e0 rfl) underlying30 rfl sizeOf28 rfl rfl) fun a h => ?_
 refine st_g h rfl rfl (gT rfl) rfl rfl (fun e0 => v_fieldAddr (eg e0 rfl) underlying28 rfl sizeOf3 rfl rfl) fun a h => ?_
 refine st_g h rfl rfl (gT rfl) rfl rfl (fun e0 => v_load1 (eg e0 rfl) isAgg3 (H.hp.get 0 rfl) rfl) fun a h => ?_
 obtain ⟨z35, e35, hS⟩ := bv hS
 refine st_g h rfl rfl (gT rfl) rfl rfl (fun e0 => vB e35 (v_eq (eg e0 rfl) (eg e0 rfl))) fun a h => ?_
 refine sB h hS rfl (v_and rfl rfl) fun z36 e36 hS a h => ?_
 refine cps 1 h rfl fun a h => ?_
 refine cN k h [2] [_] fun h => ?_
 cases hS
 refine r1 hr h rfl rfl ⟨rfl, H.out⟩
 refine rg fun K k => ?_
 refine sB h hS rfl (v_eq rfl rfl) fun z37 e37 hS a h => ?_
 refine cps 1 h rfl fun a h => ?_
 refine cN k h [1, 88] [_, _] fun h => ?_
 refine cI h hS rfl (fun ec38 hS => ?_) fun ec38 hS => ?_
 exact nomatch hS
 refine c_skip ?_
 refine rg fun K k => ?_
 refine cps 1 h rfl fun a h => ?_
 refine cz k ?_
 cases hS
 refine r1 hr h rfl rfl ⟨rfl, H.out⟩
 refine rg fun K k => ?_
 refine sB h hS rfl (v_eq rfl rfl) fun z40 e40 hS a h => ?_
 refine cps 1 h rfl fun a h => ?_
 refine cN k h [1, 4, 5] [_, _, _] fun h => ?_
 refine cI h hS rfl (fun ec41 hS => ?_) fun ec41 hS => ?_
 exact c_skip (ex2 ⟨hS, h.to, H, rp0⟩)
 refine c_lregion ?_
 refine sB h hS rfl (v_eq rfl rfl) fun z42 e42 hS a h => ?_
 refine cps 1 h rfl fun a h => ?_
 refine c_lnil ?_
 exact ex2 ⟨hS, h.to, H, rp0⟩
theorem tree_right_B_ok {rec : Nd → Int → Option (Bool)} (hrec : ∀ {x0 : Nd} {x1 : Int} {res : Bool} {w0 : World} (hS : rec x0 x1 = some res) {Z : FZ} (hZ : Z.inn w0) {xv0 : Value} (rp0 : RdN Z xv0 nodeEnc x0.l) (hG : GW w0), Calls Tryz.prog 62 [.agg #[.int .i64 x0.k, .int .i64 x0.op, .int .i64 x0.v.k, .int .i64 x0.v.n, S x0.v.s, .int .i64 x0.a.c.s, .int .i64 x0.a.c.c, .int .i64 x0.a.c.r, .bool x0.a.ac, .bool x0.a.ar, .int .i64 x0.b.c.s, .int .i64 x0.b.c.c, .int .i64 x0.b.c.r, .bool x0.b.ac, .bool x0.b.ar, S x0.nm, xv0], .int .i64 x1].toArray w0 (Ret fun v w => v = .bool res ∧ Ext w0 w)) {x0 : Nd} {x1 : Int} {res : Bool} {w0 : World} (hS : tree_right_B rec x0 x1 = some res) {Z : FZ} (hZ : Z.inn w0) {xv0 : Value} (rp0 : RdN Z xv0 nodeEnc x0.l) (hG : GW w0) : Calls Tryz.prog 62 [.agg #[.int .i64 x0.k, .int .i64 x0.op, .int .i64 x0.v.k, .int .i64 x0.v.n, S x0.v.s, .int .i64 x0.a.c.s, .int .i64 x0.a.c.c, .int .i64 x0.a.c.r, .bool x0.a.ac, .bool x0.a.ar, .int .i64 x0.b.c.s, .int .i64 x0.b.c.c, .int .i64 x0.b.c.r, .bool x0.b.ac, .bool x0.b.ar, S x0.nm, xv0], .int .i64 x1].toArray w0 (Ret fun v w => v = .bool res ∧ Ext w0 w) := by
 refine enS hZ func62 [0, 1] [_, _] fun Q a Zi eZi H h hr => ?_
 try rw [← eZi] at hr
 clear eZi
 unfold tree_right_B at hS
 refine rg fun K k => ?_
 refine z_box h H rfl [_, _, _, _, _, _, _, _, _, _, _, _, _, _, _, _, _] rfl rfl fun a p1 w X H h => ?_
 have H : HZ w0 _ _ [_] _ := H
 refine cps 1 h rfl fun a h => ?_
 refine cz k ?_
 refine sq ?_
 refine rg fun K k => ?_
 refine cps 1 h rfl fun a h => ?_
 refine sB h hS rfl (v_eq rfl rfl) fun z3 e3 hS a h => ?_
 refine cps 1 h rfl fun a h => ?_
 refine st_g h rfl rfl (gF rfl) rfl rfl (fun e0 => lA H 0 isAgg33 sizeOf33 [_, _, _, _, _, _, _, _, _, _, _, _, _, _, _, _, _]) fun a h => ?_
 obtain ⟨y4, f4, hS⟩ := bo hS
 refine st_gd (T := Ext) (V := .bool y4) h rfl rfl (gF rfl) rfl rfl (Ext.refl _) (fun e0 => d_call [_] (evs_c (eg e0 rfl) evs_n) call93 (tree_kids_ok (x0 := x0) (ifT e0 f4) (rp0.hz H.zin) (hG.ext H.out))) fun w X a h => ?_
 have H := H.ext X
 obtain ⟨z5, e5, hS⟩ := bv hS
 refine st_g h rfl rfl (gF rfl) rfl rfl (fun e0 => vB e5 (v_not (eg e0 rfl))) fun a h => ?_
 refine sB h hS rfl (v_or rfl rfl) fun z6 e6 hS a h => ?_
 refine cN k h [1, 2, 13] [_, _, _] fun h => ?_
 refine cI h hS rfl (fun ec7 hS => ?_) fun ec7 hS => ?_
 refine rg fun K k => ?_
 refine cps 1 h rfl fun a h => ?_
 refine cz k ?_
 cases hS
 refine r1 hr h rfl rfl ⟨rfl, H.out⟩
 refine c_skip ?_
 obtain ⟨J9, eJ9, hS⟩ := bv hS
 refine sqJ (fun a w => ∃ (Z : FZ) (s9 : Unit), J9 s9 = some res ∧ Fr 27 [] a ∧ HZ w0 Zi Z [.blk p1 (Cel [.int .i64 x0.k, .int .i64 x0.op, .int .i64 x0.v.k, .int .i64 x0.v.n, S x0.v.s, .int .i64 x0.a.c.s, .int .i64 x0.a.c.c, .int .i64 x0.a.c.r, .bool x0.a.ac, .bool x0.a.ar, .int .i64 x0.b.c.s, .int .i64 x0.b.c.c, .int .i64 x0.b.c.r, .bool x0.b.ac, .bool x0.b.ar, S x0.nm, xv0] 33)] w ∧ RdN Z xv0 nodeEnc x0.l) ?_ ?_
 rintro a w ⟨Z, s9, hS, h, H, rp0⟩
 subst eJ9
 refine rg fun K k => ?_
 refine cps 1 h rfl fun a h => ?_
 refine cz k ?_
 cases hS
 refine r1 hr h rfl rfl ⟨rfl, H.out⟩
 refine rg fun K k => ?_
 refine s1 h rfl (v_fieldAddr rfl underlying33 rfl sizeOf31 rfl rfl) fun a h => ?_
 refine s1 h rfl (l1 H 0 isAgg31) fun a h => ?_
 refine s1 h rfl (v_lenN underlying31 rfl rp0 H.zin) fun a h => ?_
 refine cps 1 h rfl fun a h => ?_
 refine cz k ?_
 refine lb ?_
 obtain ⟨B11, eB11, hS⟩ := bv hS
 refine lpJ (fun mu_ a w => ∃ (Z : FZ) (s11 : Int), loopF B11 mu_ s11 = some res ∧ Fr 27 [(1, .int .i64 x1), (15, xv0), (16, .int .i64 (x0.l.length : Int)), (17, .int .i64 s11)] a ∧ HZ w0 Zi Z [.blk p1 (Cel [.int .i64 x0.k, .int .i64 x0.op, .int .i64 x0.v.k, .int .i64 x0.v.n, S x0.v.s, .int .i64 x0.a.c.s, .int .i64 x0.a.c.c, .int .i64 x0.a.c.r, .bool x0.a.ac, .bool x0.a.ar, .int .i64 x0.b.c.s, .int .i64 x0.b.c.c, .int .i64 x0.b.c.r, .bool x0.b.ac, .bool x0.b.ar, S x0.nm, xv0] 33)] w ∧ RdN Z xv0 nodeEnc x0.l) KK ⟨_, _, hS, h.to, H, rp0⟩ ?_
 rintro mu_ a w ⟨Z, s11, hS, h, H, rp0⟩
 obtain ⟨mu_, rfl, n11, en11, hS⟩ := lpX eB11 hS
 refine rg fun K k => ?_
 refine sB h hS rfl (v_lt rfl rfl) fun z13 e13 hS a h => ?_
 refine cz k ?_
 refine sq ?_
 refine cI h hS rfl (fun ec15 hS => ?_) fun ec15 hS => ?_
 refine c_skip ?_
 refine sb ?_
 refine rg fun K k => ?_
 obtain ⟨c17, hS⟩ := ck hS
 obtain ⟨z18, e18, hS⟩ := bv hS
 have q_19 := rp0.gel ⟨_, nodeEnc_dflt⟩ s11
 rw [← e18] at q_19
 obtain ⟨css_19, cl_19, rc_19, hc_19, q_19⟩ := q_19
 obtain ⟨v19_19_1, hcs_19, r19_19_1⟩ := node_op q_19
 refine st_idxC h underlying31 sizeOf33 rfl rfl (rc_19.at H.zin) c17.1 (hc_19 c17) hcs_19 rfl fun a v19 A19 h => ?_
 refine s1 h rfl (v_loadAtA [_, _, _, _, _, _, _, _, _, _, _, _, _, _, _, _, _] rfl A19 isAgg33 sizeOf33 rfl rfl) fun a h => ?_
 refine zA h H zeroValue33 [_, _, _, _, _, _, _, _, _, _, _, _, _, _, _, _, _] (fun x => [_, x]) fun a p20 w X H h => ?_
 have A19 := At.ext A19 X
 refine z_store h H 1 rfl rfl rfl sizeOf33 [_, _, _, _, _, _, _, _, _, _, _, _, _, _, _, _, _] rfl rfl (by obtain ⟨_, _, _, e_⟩ := (r19_19_1).form; subst e_; rfl) (by simp) [_, _, _, _, _, _, _, _, _, _, _, _, _, _, _, _, _] rfl (hl' := [_, _]) rfl fun w H => ?_
 refine cz k ?_
 refine rg fun K k => ?_
 refine s1 h rfl (lA H 1 isAgg33 sizeOf33 [_, _, _, _, _, _, _, _, _, _, _, _, _, _, _, _, _]) fun a h => ?_
 refine cps 1 h rfl fun a h => ?_
 refine sI h hS rfl (v_subw rfl rfl) fun z21 e21 hS a h => ?_
 obtain ⟨y22, f22, hS⟩ := bo hS
 refine st2v (T := Ext) (V := .bool y22) h rfl rfl rfl (dC call62 (hrec f22 H.zin r19_19_1 (hG.ext H.out))) fun w X a h => ?_
 have H := H.ext X
 refine sB h hS rfl (v_not rfl) fun z23 e23 hS a h => ?_
 refine cN k h [1, 15, 16, 17, 25] [_, _, _, _, _] fun h => ?_
 refine cI h hS rfl (fun ec24 hS => ?_) fun ec24 hS => ?_
 refine rg fun K k => ?_
 refine cps 1 h rfl fun a h => ?_
 refine cN k h [4] [_] fun h => ?_
 cases hS
 refine r1 hr h rfl rfl ⟨rfl, H.out⟩
 refine c_skip ?_
 refine c_lregion ?_
 refine sI h hS rfl (v_addw rfl rfl) fun z25 e25 hS a h => ?_
 refine cps 1 h rfl fun a h => ?_
 refine c_lnil ?_
 exact exL (ex2 ⟨lpN en11 hS, h.to, (H.keepN 1 rfl), rp0⟩)
 exact c_exit (exU1 ⟨hS, h.to, H, rp0⟩)
theorem tree_right_ok (k : Nat) : ∀ {x0 : Nd} {x1 : Int} {res : Bool} {w0 : World} (hS : tree_right k x0 x1 = some res) {Z : FZ} (hZ : Z.inn w0) {xv0 : Value} (rp0 : RdN Z xv0 nodeEnc x0.l) (hG : GW w0), Calls Tryz.prog 62 [.agg #[.int .i64 x0.k, .int .i64 x0.op, .int .i64 x0.v.k, .int .i64 x0.v.n, S x0.v.s, .int .i64 x0.a.c.s, .int .i64 x0.a.c.c, .int .i64 x0.a.c.r, .bool x0.a.ac, .bool x0.a.ar, .int .i64 x0.b.c.s, .int .i64 x0.b.c.c, .int .i64 x0.b.c.r, .bool x0.b.ac, .bool x0.b.ar, S x0.nm, xv0], .int .i64 x1].toArray w0 (Ret fun v w => v = .bool res ∧ Ext w0 w) := by
 induction k with
 | zero => intro x0 x1 res w0 hS; exact nomatch (show (none : Option (Bool)) = some res from hS)
 | succ k ih => exact @tree_right_B_ok (tree_right k) @ih
theorem tree_Right_ok {x0 : Nd} {res : Bool} {w0 : World} (hS : tree_Right x0 = some res) {xv0 : Value} (rp0 : RdN (hz w0) xv0 nodeEnc x0.l) (hG : GW w0) : Calls Tryz.prog 20 [.agg #[.int .i64 x0.k, .int .i64 x0.op, .int .i64 x0.v.k, .int .i64 x0.v.n, S x0.v.s, .int .i64 x0.a.c.s, .int .i64 x0.a.c.c, .int .i64 x0.a.c.r, .bool x0.a.ac, .bool x0.a.ar, .int .i64 x0.b.c.s, .int .i64 x0.b.c.c, .int .i64 x0.b.c.r, .bool x0.b.ac, .bool x0.b.ar, S x0.nm, xv0]].toArray w0 (Ret fun v w => v = .bool res ∧ Ext w0 w) := by
 refine en func20 [0] [_] fun Q a Zi Z hzs H h hr => ?_
 have rp0 := rp0.sub hzs
 clear hzs
 unfold tree_Right at hS
 refine rg fun K k => ?_
 refine z_box h H rfl [_, _, _, _, _, _, _, _, _, _, _, _, _, _, _, _, _] rfl rfl fun a p1 w X H h => ?_
 have H : HZ w0 _ _ [_] _ := H
 refine cps 1 h rfl fun a h => ?_
 refine cz k ?_
 refine rg fun K k => ?_
 refine s1 h rfl (lA H 0 isAgg33 sizeOf33 [_, _, _, _, _, _, _, _, _, _, _, _, _, _, _, _, _]) fun a h => ?_
 obtain ⟨y2, f2, hS⟩ := bo hS
 refine st2v (T := Ext) (V := .bool y2) h rfl rfl rfl (dC call62 (tree_right_ok KK f2 H.zin rp0 (hG.ext H.out))) fun w X a h => ?_
 have H := H.ext X
 refine cps 1 h rfl fun a h => ?_
 refine cN k h [2] [_] fun h => ?_
 cases hS
 refine r1 hr h rfl rfl ⟨rfl, H.out⟩
end Go.Proofs.YtcecjdnkcbfhlaaGreatDoor
