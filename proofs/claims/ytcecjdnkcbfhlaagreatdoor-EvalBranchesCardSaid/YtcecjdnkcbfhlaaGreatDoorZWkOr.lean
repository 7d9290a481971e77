/- Joined texts. -/
import Derived.Test.YtcecjdnkcbfhlaaGreatDoorZU0
import Derived.Test.YtcecjdnkcbfhlaaGreatDoorZWkBo
import Derived.Test.YtcecjdnkcbfhlaaGreatDoorZWkFm
set_option linter.unusedSimpArgs false
set_option linter.unusedVariables false
set_option linter.unusedSectionVars false
namespace Go.Proofs.YtcecjdnkcbfhlaaGreatDoor
open Go.Stp Go.RowKit Go.ValP Go.Sp _root_.Go.Proofs.Tryz
set_option maxRecDepth 100000
set_option maxHeartbeats 2000000
theorem reckonerlaw13_asked_ok {x0 : Rs} {x1 : C} {res : Bool} {w0 : World} (hS : reckonerlaw13_asked x0 x1 = some res) {xv0 : Value} (rp0 : RdZ (hz w0) xv0 3 cL x0.l) : Calls Tryz.prog 27 [.agg #[.int .i64 x0.v.k, .int .i64 x0.v.n, S x0.v.s, .int .i64 x0.c.s, .int .i64 x0.c.c, .int .i64 x0.c.r, xv0], (cA x1)].toArray w0 (Ret fun v w => v = .bool res ∧ Ext w0 w) := by
 refine en func27 [0, 1] O2 fun Q a Zi Z hzs H h hr => ?_
 have rp0 := rp0.sub hzs
 clear hzs
 unfold reckonerlaw13_asked at hS
 refine rg fun K k => z_box h H rfl O7 rfl rfl fun a p1 w X H h => ?_
 have H : HZ w0 _ _ [_] _ := H
 refine z_box h H rfl O3 rfl rfl fun a p2 w X H h => ?_
 have H : HZ w0 _ _ O2 _ := H
 refine cps 1 h rfl fun a h => cz k ?_
 obtain ⟨J4, eJ4, hS⟩ := bv hS
 refine sqJ (fun a w => ∃ (Z : FZ) (s4 : Unit), J4 s4 = some res ∧ Fr 18 [] a ∧ HZ w0 Zi Z [.blk p1 (Cel [.int .i64 x0.v.k, .int .i64 x0.v.n, S x0.v.s, .int .i64 x0.c.s, .int .i64 x0.c.c, .int .i64 x0.c.r, xv0] 51), .blk p2 (Cel (cL x1) 28)] w ∧ RdZ Z xv0 3 cL x0.l) ?_ ?_
 rintro a w ⟨Z, s4, hS, h, H, rp0⟩
 subst eJ4
 refine rg fun K k => cps 1 h rfl fun a h => cz k ?_
 cases hS
 refine r1 hr h rfl rfl ⟨rfl, H.out⟩
 refine rg fun K k => s1 h rfl (v_fieldAddr rfl U51 rfl sizeOf49 rfl rfl) fun a h => ?_
 refine s1 h rfl (l1 H 0 isAgg49) fun a h => ?_
 refine s1 h rfl (v_len U49 rfl (rp0.at H.zin)) fun a h => ?_
 refine cps 1 h rfl fun a h => cN k h [3, 8, 9, 10] O4 fun h => ?_
 refine lb ?_
 obtain ⟨B6, eB6, hS⟩ := bv hS
 refine lpJ (fun mu_ a w => ∃ (Z : FZ) (s6 : Int), loopF B6 mu_ s6 = some res ∧ Fr 18 [(3, (pt p2)), (8, xv0), (9, .int .i64 (x0.l.length : Int)), (10, .int .i64 s6)] a ∧ HZ w0 Zi Z [.blk p1 (Cel [.int .i64 x0.v.k, .int .i64 x0.v.n, S x0.v.s, .int .i64 x0.c.s, .int .i64 x0.c.c, .int .i64 x0.c.r, xv0] 51), .blk p2 (Cel (cL x1) 28)] w ∧ RdZ Z xv0 3 cL x0.l) KK ⟨_, _, hS, h.to, H, rp0⟩ ?_
 rintro mu_ a w ⟨Z, s6, hS, h, H, rp0⟩
 obtain ⟨mu_, rfl, n6, en6, hS⟩ := lpX eB6 hS
 refine rg fun K k => sB h hS rfl (v_lt rfl rfl) fun z8 e8 hS a h => ?_
 refine cz k <| sq <| cI h hS rfl (fun ec10 hS => ?_) fun ec10 hS => ?_
 refine c_skip <| sb ?_
 refine rg fun K k => ?_
 obtain ⟨c12, hS⟩ := ck hS
 obtain ⟨z13, e13, hS⟩ := bv hS
 refine st_idx h U49 Z28 rfl rfl (rp0.at H.zin) (fun _ => rfl) z13 c12.1 (by rw [e13]; exact gel_some c12) rfl fun a v12 A12 h => ?_
 refine s1 h rfl (v_loadAtA O3 rfl A12 A28 Z28 rfl rfl) fun a h => ?_
 refine zA h H V28 O3 (fun x => [_, _, x]) fun a p14 w X H h => ?_
 have A12 := At.ext A12 X
 refine zS h H 2 Z28 O3 O3 O3 fun w H => ?_
 refine cz k <| rg fun K k => s1 h rfl (lA H 2 A28 Z28 O3) fun a h => ?_
 refine s1 h rfl (lA H 1 A28 Z28 O3) fun a h => ?_
 refine sB h hS rfl (v_aggeq rfl rfl age28 (agq28 _ _ _ _ _ _)) fun z15 e15 hS a h => ?_
 refine cN k h [3, 8, 9, 10, 16] O5 fun h => ?_
 refine cI h hS rfl (fun ec16 hS => ?_) fun ec16 hS => ?_
 refine rg fun K k => cps 1 h rfl fun a h => cN k h [4] [_] fun h => ?_
 cases hS
 refine r1 hr h rfl rfl ⟨rfl, H.out⟩
 refine c_skip <| c_lregion <| sI h hS rfl (v_addw rfl rfl) fun z17 e17 hS a h => ?_
 refine cps 1 h rfl fun a h => c_lnil ?_
 exact exL (ex2 ⟨lpN en6 hS, h.to, (H.keepN 2 rfl), rp0⟩)
 exact c_exit (exU1 ⟨hS, h.to, H, rp0⟩)
end Go.Proofs.YtcecjdnkcbfhlaaGreatDoor
