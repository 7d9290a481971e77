/- Walks of the functions of package lex, the example. -/
import Derived.Test.YtdepoohfljaogaaDoorF
import Derived.Test.YtdepoohfljaogaaDoorLexPlain
import Derived.Test.YtdepoohfljaogaaDoorLexD
import Derived.Test.YtdepoohfljaogaaDoorLexLaw
import Derived.Test.YtdepoohfljaogaaDoorShelf
set_option linter.unusedSimpArgs false
set_option linter.unusedVariables false
set_option linter.unusedSectionVars false
namespace Go.Proofs.YtdepoohfljaogaaDoor
open Go.Stp Go.RowKit Go.LexP
theorem fit_ok  (w0 : World) (hG : GF w0) : Calls Tryd.prog 8 [].toArray w0 (Ret fun v w => v = .bool true ∧ Ext w0 w) := by
  refine enter Tryd.func8 rfl rfl rfl fun Q a h hret0 hnor => ?_
  have H := Hp.start w0
  have h := h.only [] (l' := []) rfl
  refine c_region fun K hK => ?_
  refine st1 h rfl rfl rfl (v_assign rfl) fun a h => ?_
  refine c_nil hK ?_
  refine c_region fun K hK => ?_
  refine st2 h rfl rfl rfl (d_call [_] rfl Tryd.call9 (all_ok fitC _ (GF.ext hG H.out))) ?_
  rintro v5 w ⟨hao, X⟩ a h
  have H := H.ext X
  obtain ⟨sv5, rfl, hr5⟩ := hao.ok (by decide) fit_lexes
  refine st1 h rfl rfl rfl (v_move rfl) fun a h => ?_
  refine st1 h rfl rfl rfl (v_extract rfl rfl) fun a h => ?_
  refine st1 h rfl rfl rfl (v_extract rfl rfl) fun a h => ?_
  refine st1 h rfl rfl rfl (v_extract rfl rfl) fun a h => ?_
  refine st1 h rfl rfl rfl (v_assign rfl) fun a h => ?_
  refine st1 h rfl rfl rfl (v_assign rfl) fun a h => ?_
  refine st1 h rfl rfl rfl (v_assign rfl) fun a h => ?_
  refine c_nil hK ?_
  have h := h.only [1, 3] (l' := [(1, _), (3, _)]) rfl
  refine c_region fun K hK => ?_
  refine st1 h rfl rfl rfl (v_move rfl) fun a h => ?_
  refine st1b h rfl rfl rfl (v_eq rfl rfl) fun b10 e10 a h => ?_
  refine st1 h rfl rfl rfl (v_move rfl) fun a h => ?_
  refine st_g h rfl rfl (gT rfl) rfl rfl (fun e0 => v_move rfl) fun a h => ?_
  refine st_g h rfl rfl (gT rfl) rfl rfl (fun e0 => v_len Tryd.underlying23 (eg e0 rfl) hr5) fun a h => ?_
  refine st_gb h rfl rfl (gT rfl) rfl rfl (fun e0 => v_eq (eg e0 rfl) rfl) fun b14 e14 a h => ?_
  refine st1b h rfl rfl rfl (v_and rfl rfl) fun b15 e15 a h => ?_
  refine st1 h rfl rfl rfl (v_move rfl) fun a h => ?_
  refine st_g h rfl rfl (gT rfl) rfl rfl (fun e0 => v_move rfl) fun a h => ?_
  refine st_idxG h rfl (gT rfl) Tryd.underlying23 Tryd.sizeOf28 (fun e0 => (eg e0 rfl)) (fun e0 => rfl) hr5 (fun _ => rfl) ⟨2, [97, 34, 98], 2⟩ (fun e0 => (by omega)) (fun e0 => rfl) rfl fun a v18 A18 h => ?_
  refine st_fieldG h rfl (gT rfl) (fun e0 => (eg e0 rfl)) (fun e0 => (A18 e0)) Tryd.underlying28 rfl Tryd.sizeOf9 rfl rfl rfl fun a v19 A19 h => ?_
  refine st_g h rfl rfl (gT rfl) rfl rfl (fun e0 => v_loadAt1 (eg e0 rfl) (A19 e0) Tryd.isAgg9 rfl) fun a h => ?_
  refine st_gb h rfl rfl (gT rfl) rfl rfl (fun e0 => v_seq (eg e0 rfl) rfl) fun b21 e21 a h => ?_
  refine st1b h rfl rfl rfl (v_and rfl rfl) fun b22 e22 a h => ?_
  refine st1 h rfl rfl rfl (v_move rfl) fun a h => ?_
  refine st_g h rfl rfl (gT rfl) rfl rfl (fun e0 => v_move rfl) fun a h => ?_
  refine st_idxG h rfl (gT rfl) Tryd.underlying23 Tryd.sizeOf28 (fun e0 => (eg e0 rfl)) (fun e0 => rfl) hr5 (fun _ => rfl) ⟨1, [49], 0⟩ (fun e0 => (by omega)) (fun e0 => rfl) rfl fun a v25 A25 h => ?_
  refine st_fieldG h rfl (gT rfl) (fun e0 => (eg e0 rfl)) (fun e0 => (A25 e0)) Tryd.underlying28 rfl Tryd.sizeOf3 rfl rfl rfl fun a v26 A26 h => ?_
  refine st_g h rfl rfl (gT rfl) rfl rfl (fun e0 => v_loadAt1 (eg e0 rfl) (A26 e0) Tryd.isAgg3 rfl) fun a h => ?_
  refine st_gb h rfl rfl (gT rfl) rfl rfl (fun e0 => v_eq (eg e0 rfl) rfl) fun b28 e28 a h => ?_
  refine st1b h rfl rfl rfl (v_and rfl rfl) fun b29 e29 a h => ?_
  refine st1 h rfl rfl rfl (v_move rfl) fun a h => ?_
  refine st_gd (T := Ext) h rfl rfl (gT rfl) rfl rfl (Ext.refl _) (fun e0 => d_call [_] rfl Tryd.call12 (errName_ok 1 _ (by omega) (GF.ext hG H.out))) fun w X a h => ?_
  have H := H.ext X
  have hr5 := Reads.ext hr5 X
  have A18 := AtG.ext A18 X
  have A19 := AtG.ext A19 X
  have A25 := AtG.ext A25 X
  have A26 := AtG.ext A26 X
  refine st_gb h rfl rfl (gT rfl) rfl rfl (fun e0 => v_seq (eg e0 rfl) rfl) fun b32 e32 a h => ?_
  refine st1b h rfl rfl rfl (v_and rfl rfl) fun b33 e33 a h => ?_
  refine st1 h rfl rfl rfl (v_assign rfl) fun a h => ?_
  refine c_nil hK ?_
  have h := h.only [0] (l' := [(0, _)]) rfl
  clear A18
  clear A19
  clear A25
  clear A26
  refine c_ret (hret0 _ _ (out1 h rfl rfl ?_))
  refine ⟨?_, H.out⟩
  subst_vars
  rfl

end Go.Proofs.YtdepoohfljaogaaDoor
