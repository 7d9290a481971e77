/- Joined texts. -/
import Derived.Test.YtcecjdnkcbfhlaaGreatDoorLFT
import Derived.Test.YtcecjdnkcbfhlaaGreatDoorLU0
import Derived.Test.YtcecjdnkcbfhlaaGreatDoorLWkEv
set_option linter.unusedSimpArgs false
set_option linter.unusedVariables false
set_option linter.unusedSectionVars false
namespace Go.Proofs.YtcecjdnkcbfhlaaGreatDoor
open Go.Stp Go.RowKit Go.ValP Go.Sp _root_.Go.Proofs.Tryz
set_option maxRecDepth 100000
theorem tree_Size_B_ok {rec : Nd → Option (Int)} (hrec : ∀ {x0 : Nd} {res : Int} {w0 : World} (hS : rec x0 = some res) {Z : FZ} (hZ : Z.inn w0) {xv0 : Value} (rp0 : RdN Z xv0 nodeEnc x0.l) (hG : GW w0), Calls Tryz.prog 39 [(nA x0 xv0)].toArray w0 (Ret fun v w => v = .int .i64 res ∧ Ext w0 w)) {x0 : Nd} {res : Int} {w0 : World} (hS : tree_Size_B rec x0 = some res) {Z : FZ} (hZ : Z.inn w0) {xv0 : Value} (rp0 : RdN Z xv0 nodeEnc x0.l) (hG : GW w0) : Calls Tryz.prog 39 [(nA x0 xv0)].toArray w0 (Ret fun v w => v = .int .i64 res ∧ Ext w0 w) := by
 refine enS hZ func39 [0] [_] fun Q a Zi eZi H h hr => ?_
 try rw [← eZi] at hr
 clear eZi
 unfold tree_Size_B at hS
 refine rg fun K k => z_box h H rfl O17 rfl rfl fun a p1 w X H h => ?_
 have H : HZ w0 _ _ [_] _ := H
 refine cps 1 h rfl fun a h => cz k <| rg fun K k => cps 1 h rfl fun a h => cz k ?_
 obtain ⟨J3, eJ3, hS⟩ := bv hS
 refine sqJ (fun a w => ∃ (Z : FZ) (s3 : Int), J3 s3 = some res ∧ Fr 19 [(3, .int .i64 s3)] a ∧ HZ w0 Zi Z [.blk p1 (Cel (nL x0 xv0) 33)] w ∧ RdN Z xv0 nodeEnc x0.l) ?_ ?_
 rintro a w ⟨Z, s3, hS, h, H, rp0⟩
 subst eJ3
 refine rg fun K k => cps 2 h rfl fun a h => cz k ?_
 cases hS
 refine r1 hr h rfl rfl ⟨rfl, H.out⟩
 refine rg fun K k => s1 h rfl (v_fieldAddr rfl U33 rfl Z31 rfl rfl) fun a h => ?_
 refine s1 h rfl (l1 H 0 A31) fun a h => ?_
 refine s1 h rfl (v_lenN U31 rfl rp0 H.zin) fun a h => ?_
 refine cps 1 h rfl fun a h => cN k h [3, 7, 8, 9] O4 fun h => ?_
 refine lb ?_
 obtain ⟨B5, eB5, hS⟩ := bv hS
 refine lpJ (fun mu_ a w => ∃ (Z : FZ) (s5 : Int × Int), loopF B5 mu_ s5 = some res ∧ Fr 19 [(3, .int .i64 s5.1), (7, xv0), (8, .int .i64 (x0.l.length : Int)), (9, .int .i64 s5.2)] a ∧ HZ w0 Zi Z [.blk p1 (Cel (nL x0 xv0) 33)] w ∧ RdN Z xv0 nodeEnc x0.l) KK ⟨_, _, hS, h.to, H, rp0⟩ ?_
 rintro mu_ a w ⟨Z, s5, hS, h, H, rp0⟩
 obtain ⟨mu_, rfl, n5, en5, hS⟩ := lpX eB5 hS
 refine rg fun K k => sB h hS rfl (v_lt rfl rfl) fun z7 e7 hS a h => ?_
 refine cz k <| sq <| cI h hS rfl (fun ec9 hS => ?_) fun ec9 hS => ?_
 refine c_skip <| sb ?_
 refine rg fun K k => ?_
 obtain ⟨c11, hS⟩ := ck hS
 obtain ⟨z12, e12, hS⟩ := bv hS
 have q_13 := rp0.gel ⟨_, nodeEnc_dflt⟩ s5.2
 rw [← e12] at q_13
 obtain ⟨css_13, cl_13, rc_13, hc_13, q_13⟩ := q_13
 obtain ⟨v11_13_1, hcs_13, r11_13_1⟩ := node_op q_13
 refine st_idxC h U31 Z33 rfl rfl (rc_13.at H.zin) c11.1 (hc_13 c11) hcs_13 rfl fun a v11 A11 h => ?_
 refine s1 h rfl (v_loadAtA O17 rfl A11 A33 Z33 rfl rfl) fun a h => ?_
 refine zA h H V33 O17 (fun x => [_, x]) fun a p14 w X H h => ?_
 have A11 := At.ext A11 X
 refine z_store h H 1 rfl rfl rfl Z33 O17 rfl rfl (by obtain ⟨_, _, _, e_⟩ := (r11_13_1).form; subst e_; rfl) (by simp) O17 rfl (hl' := O2) rfl fun w H => ?_
 refine cz k <| c_lregion <| cps 1 h rfl fun a h => s1 h rfl (lA H 1 A33 Z33 O17) fun a h => ?_
 obtain ⟨y15, f15, hS⟩ := bo hS
 refine st2v (T := Ext) (V := .int .i64 y15) h rfl rfl rfl (dC call39 (hrec f15 H.zin r11_13_1 (hG.ext H.out))) fun w X a h => ?_
 have H := H.ext X
 refine sI h hS rfl (v_addw rfl rfl) fun z16 e16 hS a h => ?_
 refine cps 1 h rfl fun a h => c_lnil <| cO h [3, 7, 8, 9] O4 fun h => ?_
 refine c_lregion <| sI h hS rfl (v_addw rfl rfl) fun z17 e17 hS a h => ?_
 refine cps 1 h rfl fun a h => c_lnil ?_
 exact exL (ex2 ⟨lpN en5 hS, h.to, (H.keepN 1 rfl), rp0⟩)
 exact c_exit (ex2 ⟨hS, h.to, H, rp0⟩)
theorem tree_Size_ok (k : Nat) : ∀ {x0 : Nd} {res : Int} {w0 : World} (hS : tree_Size k x0 = some res) {Z : FZ} (hZ : Z.inn w0) {xv0 : Value} (rp0 : RdN Z xv0 nodeEnc x0.l) (hG : GW w0), Calls Tryz.prog 39 [(nA x0 xv0)].toArray w0 (Ret fun v w => v = .int .i64 res ∧ Ext w0 w) := by
 induction k with
 | zero => intro x0 res w0 hS; exact nomatch (show (none : Option (Int)) = some res from hS)
 | succ k ih => exact @tree_Size_B_ok (tree_Size k) @ih
end Go.Proofs.YtcecjdnkcbfhlaaGreatDoor
