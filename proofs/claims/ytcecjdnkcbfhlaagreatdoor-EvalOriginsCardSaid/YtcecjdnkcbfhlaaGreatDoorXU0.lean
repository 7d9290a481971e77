/- Joined texts. -/
import Derived.Test.YtcecjdnkcbfhlaaGreatDoorXM0
import Derived.Test.YtcecjdnkcbfhlaaGreatDoorXS0
set_option linter.unusedSimpArgs false
set_option linter.unusedVariables false
set_option linter.unusedSectionVars false
section
namespace Go.Sp
open Go.Stp Go.ValP
def rowL (a b : C) (i : Nat) : List C := (List.range (b.c - a.c + 1).toNat).map fun j : Nat => ⟨a.s, a.c + j, a.r + i⟩
def upL (a b : C) (i j : Nat) : List C := ((List.range i).flatMap (rowL a b)) ++ (List.range j).map fun j : Nat => (⟨a.s, a.c + j, a.r + i⟩ : C)
def cellsL (a b : C) : List C := (List.range (b.r - a.r + 1).toNat).flatMap (rowL a b)
def addr_Cells (a b : C) : Option (List C) :=
 obind (addr_Order a b) fun o =>
 if o.2.2 = true then
  chk ((-9223372036854775808 ≤ o.1.c ∧ o.2.1.c < 9223372036854775807) ∧ -9223372036854775808 ≤ o.1.r ∧ o.2.1.r < 9223372036854775807) <|
  some (cellsL o.1 o.2.1)
 else some []
theorem upL_succ {a b : C} {i j : Nat} : upL a b i j ++ [⟨a.s, a.c + j, a.r + i⟩] = upL a b i (j + 1) := by
 unfold upL
 rw [List.append_assoc, List.range_succ, List.map_append]
 rfl
theorem upL_row {a b : C} {i : Nat} : upL a b i (b.c - a.c + 1).toNat = upL a b (i + 1) 0 := by
 unfold upL
 rw [List.range_succ, List.flatMap_append]
 simp [rowL]
theorem upL_all {a b : C} : upL a b (b.r - a.r + 1).toNat 0 = cellsL a b := by simp [upL, cellsL]
theorem upL_prefix {a b : C} {i j : Nat} (hi : i < (b.r - a.r + 1).toNat) (hj : j ≤ (b.c - a.c + 1).toNat) : upL a b i j <+: cellsL a b := by
 unfold upL cellsL
 obtain ⟨m, hm⟩ : ∃ m, (b.r - a.r + 1).toNat = i + (1 + m) := ⟨(b.r - a.r + 1).toNat - i - 1, by omega⟩
 obtain ⟨k, hk⟩ : ∃ k, (b.c - a.c + 1).toNat = j + k := ⟨(b.c - a.c + 1).toNat - j, by omega⟩
 rw [hm, List.range_add, List.flatMap_append, List.range_add, List.map_append, List.flatMap_append]
 have e : List.flatMap (rowL a b) (List.map (fun x => i + x) (List.range 1)) = rowL a b i := by simp
 rw [e]
 refine List.prefix_append_right_inj _ |>.2 ?_
 unfold rowL
 rw [hk, List.range_add, List.map_append, List.append_assoc]
 exact List.prefix_append _ _
end Go.Sp
end
section
namespace Go.Sp
open Go.Stp Go.ValP
def eval_run_truth (rec : Rn → Nd → (List (C × Bool)) → Option ((Gt) × List (C × Bool))) (x0 : Rn) (x1 : Nd) (m0 : List (C × Bool)) : Option ((Gt) × List (C × Bool)) :=
 obind (rec x0 x1 m0) fun y8_3 =>
 bindv (decide (y8_3.1.v.k = 4) : Bool) fun z12_7 =>
 if z12_7 = true then (
  some (y8_3.1, y8_3.2)
 ) else (
  obind (value_ToBool y8_3.1.v) fun y17_9 =>
  obind (eval_run_made x0 y17_9) fun y18_10 =>
  some (y18_10, y8_3.2)
 )
def eval_run_lazy (rec : Rn → Nd → (List (C × Bool)) → Option ((Gt) × List (C × Bool))) (x0 : Rn) (x1 : Nd) (m0 : List (C × Bool)) : Option ((Gt) × List (C × Bool)) :=
 bindv ((fun s4 =>
  chk ((0 : Int) ≤ 0 ∧ 0 < (x1.l.length : Int)) <|
  bindv (gel x1.l 0 : Nd) fun z116_6 =>
  obind (eval_run_truth rec x0 z116_6 s4.1) fun y118_8 =>
  bindv (decide (y118_8.1.v.k = 4) : Bool) fun z123_12 =>
  if z123_12 = true then (
   some (y118_8.1, y118_8.2)
  ) else (
   bindv (decide (y118_8.1.v.n = 1) : Bool) fun z129_14 =>
   if z129_14 = true then (
    chk ((0 : Int) ≤ 1 ∧ 1 < (x1.l.length : Int)) <|
    bindv (gel x1.l 1 : Nd) fun z133_17 =>
    obind (rec x0 z133_17 y118_8.2) fun y135_19 =>
    some (y135_19.1, y135_19.2)
   ) else (
    bindv (decide ((x1.l.length : Int) = 3) : Bool) fun z140_21 =>
    if z140_21 = true then (
     chk ((0 : Int) ≤ 2 ∧ 2 < (x1.l.length : Int)) <|
     bindv (gel x1.l 2 : Nd) fun z144_24 =>
     obind (rec x0 z144_24 y118_8.2) fun y146_26 =>
     some (y146_26.1, y146_26.2)
    ) else (
     obind (value_Bool false) fun y148_28 =>
     obind (eval_run_made x0 y148_28) fun y149_29 =>
     some (y149_29, y118_8.2)
    )
   )
  )
  ) : ((List (C × Bool)) × Int × Int × (List UInt8) × Int × Int × Int) → Option ((Gt) × List (C × Bool))) fun J4 =>
 bindv (decide (x1.op = 2) : Bool) fun z16_31 =>
 if z16_31 = true then (
  chk ((0 : Int) ≤ 0 ∧ 0 < (x1.l.length : Int)) <|
  bindv (gel x1.l 0 : Nd) fun z20_34 =>
  obind (rec x0 z20_34 m0) fun y22_36 =>
  bindv (!decide (y22_36.1.v.k = 4) : Bool) fun z26_40 =>
  if z26_40 = true then (
   some (y22_36.1, y22_36.2)
  ) else (
   chk ((0 : Int) ≤ 1 ∧ 1 < (x1.l.length : Int)) <|
   bindv (gel x1.l 1 : Nd) fun z31_43 =>
   obind (rec x0 z31_43 y22_36.2) fun y33_45 =>
   some (y33_45.1, y33_45.2)
  )
 ) else (
  bindv ((fun s48 =>
   if s48 = true then (
    bindv ((fun s51 =>
     bindv (decide (x1.op = 3) : Bool) fun z66_52 =>
     obind (value_Bool z66_52) fun y67_53 =>
     obind (eval_run_made x0 y67_53) fun y68_54 =>
     some (y68_54, s51.1)
     ) : ((List (C × Bool)) × Int × Int × (List UInt8) × Int × Int × Int) → Option ((Gt) × List (C × Bool))) fun J51 =>
    bindv (fun (n56 : (Int × (List (C × Bool)) × Int × Int × (List UInt8) × Int × Int × Int) → Option ((Gt) × List (C × Bool))) (s56 : Int × (List (C × Bool)) × Int × Int × (List UInt8) × Int × Int × Int) =>
     bindv (decide (s56.1 < (x1.l.length : Int)) : Bool) fun z41_58 =>
     if z41_58 = true then (
      chk ((0 : Int) ≤ s56.1 ∧ s56.1 < (x1.l.length : Int)) <|
      bindv (gel x1.l s56.1 : Nd) fun z42_63 =>
      obind (eval_run_truth rec x0 z42_63 s56.2.1) fun y46_66 =>
      bindv (decide (y46_66.1.v.k = 4) : Bool) fun z50_69 =>
      bindv (decide (y46_66.1.v.n = 1) : Bool) fun z55_70 =>
      bindv (decide (x1.op = 4) : Bool) fun z58_71 =>
      bindv (z55_70 == z58_71 : Bool) fun z59_72 =>
      bindv (z50_69 || z59_72 : Bool) fun z60_73 =>
      if z60_73 = true then (
       some (y46_66.1, y46_66.2)
      ) else (
       bindv (IntKind.wrap .i64 (s56.1 + 1) : Int) fun z62_75 =>
       n56 (z62_75, y46_66.2, s56.2.2.1, s56.2.2.2.1, s56.2.2.2.2.1, s56.2.2.2.2.2.1, s56.2.2.2.2.2.2.1, s56.2.2.2.2.2.2.2)
      )
     ) else (
      J51 (s56.2.1, s56.2.2.1, s56.2.2.2.1, s56.2.2.2.2.1, s56.2.2.2.2.2.1, s56.2.2.2.2.2.2.1, s56.2.2.2.2.2.2.2)
     )
     ) fun B56 =>
    loopF B56 KK (0, m0, 0, 0, [], 0, 0, 0)
   ) else (
    bindv (decide (x1.op = 5) : Bool) fun z70_76 =>
    if z70_76 = true then (
     chk ((0 : Int) ≤ 0 ∧ 0 < (x1.l.length : Int)) <|
     bindv (gel x1.l 0 : Nd) fun z74_79 =>
     obind (rec x0 z74_79 m0) fun y76_81 =>
     bindv (decide (y76_81.1.v.k = 4) : Bool) fun z80_85 =>
     if z80_85 = true then (
      some (y76_81.1, y76_81.2)
     ) else (
      obind (value_ToNum y76_81.1.v) fun y84_87 =>
      bindv (decide (y84_87.k = 4) : Bool) fun z87_90 =>
      if z87_90 = true then (
       obind (eval_run_made x0 y84_87) fun y90_92 =>
       some (y90_92, y76_81.2)
      ) else (
       bindv (IntKind.wrap .i64 (Int.tdiv y84_87.n 1000000) : Int) fun z93_94 =>
       bindv (decide (1 ≤ z93_94) : Bool) fun z95_95 =>
       bindv (decide (z93_94 < (x1.l.length : Int)) : Bool) fun z101_96 =>
       bindv (z95_95 && z101_96 : Bool) fun z102_97 =>
       if z102_97 = true then (
        chk ((0 : Int) ≤ z93_94 ∧ z93_94 < (x1.l.length : Int)) <|
        bindv (gel x1.l z93_94 : Nd) fun z107_100 =>
        obind (rec x0 z107_100 y76_81.2) fun y109_102 =>
        some (y109_102.1, y109_102.2)
       ) else (
        obind (value_Fail (2 : Int)) fun y111_104 =>
        obind (eval_run_made x0 y111_104) fun y112_105 =>
        some (y112_105, y76_81.2)
       )
      )
     )
    ) else (
     J4 (m0, 0, 0, [], 0, 0, 0)
    )
   )
   ) : (Bool) → Option ((Gt) × List (C × Bool))) fun J48 =>
  bindv (decide (x1.op = 3) : Bool) fun z35_106 =>
  if z35_106 = true then (
   J48 z35_106
  ) else (
   bindv (decide (x1.op = 4) : Bool) fun z36_108 =>
   J48 z36_108
  )
 )
def eval_run_strict (rec : Rn → Nd → (List (C × Bool)) → Option ((Gt) × List (C × Bool))) (x0 : Rn) (x1 : Nd) (m0 : List (C × Bool)) : Option ((Gt) × List (C × Bool)) :=
 bindv ((fun s5 =>
  obind (funcs_Apply x1.op s5.2.2.2.2.2.2.2) fun y93_8 =>
  obind (eval_run_made x0 y93_8) fun y94_9 =>
  some (y94_9, s5.1)
  ) : ((List (C × Bool)) × Int × Int × (List UInt8) × Int × Int × Int × (List (Arg))) → Option ((Gt) × List (C × Bool))) fun J5 =>
 bindv (fun (n11 : (Int × (List (C × Bool)) × Int × Int × (List UInt8) × Int × Int × Int × (List (Arg))) → Option ((Gt) × List (C × Bool))) (s11 : Int × (List (C × Bool)) × Int × Int × (List UInt8) × Int × Int × Int × (List (Arg))) =>
  bindv (decide (s11.1 < (x1.l.length : Int)) : Bool) fun z20_15 =>
  if z20_15 = true then (
   chk ((0 : Int) ≤ s11.1 ∧ s11.1 < (x1.l.length : Int)) <|
   bindv (gel x1.l s11.1 : Nd) fun z21_20 =>
   obind (eval_Area x0.p z21_20) fun y30_25 =>
   bindv ((fun s29 =>
    bindv ((fun s33 =>
     chk (s11.2.2.2.2.2.2.2.2.length + [(⟨s29.2.1, s29.2.2.1, s33.2.2.2.2.2.2⟩ : Arg)].length ≤ 9223372036854775807 ∧ (s11.2.2.2.2.2.2.2.2.length + [(⟨s29.2.1, s29.2.2.1, s33.2.2.2.2.2.2⟩ : Arg)].length) * 40 ≤ 140737488355328) <|
     bindv (s11.2.2.2.2.2.2.2.2 ++ [(⟨s29.2.1, s29.2.2.1, s33.2.2.2.2.2.2⟩ : Arg)] : List (Arg)) fun z87_40 =>
     bindv (IntKind.wrap .i64 (s11.1 + 1) : Int) fun z88_41 =>
     n11 (z88_41, s29.1, s33.1, s33.2.1, s33.2.2.1, s33.2.2.2.1, s33.2.2.2.2.1, s33.2.2.2.2.2.1, z87_40)
     ) : (Int × Int × (List UInt8) × Int × Int × Int × (List (V))) → Option ((Gt) × List (C × Bool))) fun J33 =>
    bindv (fun (n43 : (Int × Int × Int × (List UInt8) × Int × Int × Int × (List (V))) → Option ((Gt) × List (C × Bool))) (s43 : Int × Int × Int × (List UInt8) × Int × Int × Int × (List (V))) =>
     bindv (decide (s43.1 < (s29.2.2.2.length : Int)) : Bool) fun z62_47 =>
     if z62_47 = true then (
      chk ((0 : Int) ≤ s43.1 ∧ s43.1 < (s29.2.2.2.length : Int)) <|
      bindv (gel s29.2.2.2 s43.1 : Gt) fun z63_52 =>
      bindv (decide (z63_52.v.k = 4) : Bool) fun z68_55 =>
      obind (if z68_55 = true then funcs_Bears x1.op else some default) fun y72_56 =>
      bindv (!y72_56 : Bool) fun z73_57 =>
      bindv (z68_55 && z73_57 : Bool) fun z74_58 =>
      if z74_58 = true then (
       some (z63_52, s29.1)
      ) else (
       chk (s43.2.2.2.2.2.2.2.length + [z63_52.v].length ≤ 9223372036854775807 ∧ (s43.2.2.2.2.2.2.2.length + [z63_52.v].length) * 32 ≤ 140737488355328) <|
       bindv (s43.2.2.2.2.2.2.2 ++ [z63_52.v] : List (V)) fun z81_63 =>
       bindv (IntKind.wrap .i64 (s43.1 + 1) : Int) fun z83_64 =>
       n43 (z83_64, s43.2.1, s43.2.2.1, s43.2.2.2.1, s43.2.2.2.2.1, s43.2.2.2.2.2.1, s43.2.2.2.2.2.2.1, z81_63)
      )
     ) else (
      J33 (s43.2.1, s43.2.2.1, s43.2.2.2.1, s43.2.2.2.2.1, s43.2.2.2.2.2.1, s43.2.2.2.2.2.2.1, s43.2.2.2.2.2.2.2)
     )
     ) fun B43 =>
    loopF B43 KK (0, s11.2.2.1, s11.2.2.2.1, s11.2.2.2.2.1, s11.2.2.2.2.2.1, s11.2.2.2.2.2.2.1, s11.2.2.2.2.2.2.2.1, ([] : List (V)))
    ) : ((List (C × Bool)) × Bool × Int × (List (Gt))) → Option ((Gt) × List (C × Bool))) fun J29 =>
   if y30_25.2.2 = true then (
    bindv (IntKind.wrap .i64 (y30_25.2.1.c - y30_25.1.c) : Int) fun z39_66 =>
    bindv (IntKind.wrap .i64 (z39_66 + 1) : Int) fun z40_67 =>
    obind (addr_Cells y30_25.1 y30_25.2.1) fun y45_68 =>
    bindv (fun (s70 : (List (C × Bool)) × (List (Gt))) (x : C) =>
     obind (eval_run_cell x0 x s70.1) fun y50_73 =>
     chk (s70.2.length + [y50_73.1].length ≤ 9223372036854775807 ∧ (s70.2.length + [y50_73.1].length) * 56 ≤ 140737488355328) <|
     bindv (s70.2 ++ [y50_73.1] : List (Gt)) fun z52_77 =>
     some (y50_73.2, z52_77)
     ) fun B70 =>
    obind (foldO B70 (s11.2.1, ([] : List (Gt))) y45_68) fun f70 =>
    J29 (f70.1, true, z40_67, f70.2)
   ) else (
    obind (rec x0 z21_20 s11.2.1) fun y56_79 =>
    chk (([] : List (Gt)).length + [y56_79.1].length ≤ 9223372036854775807 ∧ (([] : List (Gt)).length + [y56_79.1].length) * 56 ≤ 140737488355328) <|
    bindv (([] : List (Gt)) ++ [y56_79.1] : List (Gt)) fun z58_83 =>
    J29 (y56_79.2, false, 1, z58_83)
   )
  ) else (
   J5 (s11.2.1, s11.2.2.1, s11.2.2.2.1, s11.2.2.2.2.1, s11.2.2.2.2.2.1, s11.2.2.2.2.2.2.1, s11.2.2.2.2.2.2.2.1, s11.2.2.2.2.2.2.2.2)
  )
  ) fun B11 =>
 loopF B11 KK (0, m0, 0, 0, [], 0, 0, 0, ([] : List (Arg)))
def eval_run_eval_B (rec : Rn → Nd → (List (C × Bool)) → Option ((Gt) × List (C × Bool))) (x0 : Rn) (x1 : Nd) (m0 : List (C × Bool)) : Option ((Gt) × List (C × Bool)) :=
 bindv (decide (x1.k = 1) : Bool) fun z14_5 =>
 if z14_5 = true then (
  obind (eval_run_made x0 x1.v) fun y18_7 =>
  some (y18_7, m0)
 ) else (
  bindv ((fun s9 =>
   if s9 = true then (
    obind (eval_Area x0.p x1) fun y29_11 =>
    bindv (!y29_11.2.2 : Bool) fun z34_15 =>
    if z34_15 = true then (
     obind (value_Fail (4 : Int)) fun y36_17 =>
     obind (eval_run_made x0 y36_17) fun y37_18 =>
     some (y37_18, m0)
    ) else (
     bindv (!((decide (y29_11.1.s = y29_11.2.1.s) && (decide (y29_11.1.c = y29_11.2.1.c) && decide (y29_11.1.r = y29_11.2.1.r)))) : Bool) fun z40_20 =>
     if z40_20 = true then (
      obind (value_Fail (2 : Int)) fun y42_22 =>
      obind (eval_run_made x0 y42_22) fun y43_23 =>
      some (y43_23, m0)
     ) else (
      obind (eval_run_cell x0 y29_11.1 m0) fun y46_24 =>
      some (y46_24.1, y46_24.2)
     )
    )
   ) else (
    bindv ((fun s27 =>
     if s27 = true then (
      chk ((0 : Int) ≤ 0 ∧ 0 < (x1.l.length : Int)) <|
      bindv (gel x1.l 0 : Nd) fun z53_30 =>
      obind (rec x0 z53_30 m0) fun y55_32 =>
      bindv (decide (y55_32.1.v.k = 4) : Bool) fun z59_36 =>
      if z59_36 = true then (
       some (y55_32.1, y55_32.2)
      ) else (
       obind (funcs_Unary x1.k y55_32.1.v) fun y66_38 =>
       obind (eval_run_made x0 y66_38) fun y67_39 =>
       some (y67_39, y55_32.2)
      )
     ) else (
      bindv (decide (x1.k = 7) : Bool) fun z69_40 =>
      if z69_40 = true then (
       chk ((0 : Int) ≤ 0 ∧ 0 < (x1.l.length : Int)) <|
       bindv (gel x1.l 0 : Nd) fun z73_43 =>
       obind (rec x0 z73_43 m0) fun y75_45 =>
       bindv (decide (y75_45.1.v.k = 4) : Bool) fun z79_49 =>
       if z79_49 = true then (
        some (y75_45.1, y75_45.2)
       ) else (
        chk ((0 : Int) ≤ 1 ∧ 1 < (x1.l.length : Int)) <|
        bindv (gel x1.l 1 : Nd) fun z84_52 =>
        obind (rec x0 z84_52 y75_45.2) fun y86_54 =>
        bindv (decide (y86_54.1.v.k = 4) : Bool) fun z90_58 =>
        if z90_58 = true then (
         some (y86_54.1, y86_54.2)
        ) else (
         obind (funcs_Binary x1.op y75_45.1.v y86_54.1.v) fun y99_60 =>
         obind (eval_run_made x0 y99_60) fun y100_61 =>
         some (y100_61, y86_54.2)
        )
       )
      ) else (
       bindv (decide (x1.op ≤ 5) : Bool) fun z103_63 =>
       if z103_63 = true then (
        obind (eval_run_lazy rec x0 x1 m0) fun y106_65 =>
        some (y106_65.1, y106_65.2)
       ) else (
        obind (eval_run_strict rec x0 x1 m0) fun y109_67 =>
        some (y109_67.1, y109_67.2)
       )
      )
     )
     ) : (Bool) → Option ((Gt) × List (C × Bool))) fun J27 =>
    bindv (decide (x1.k = 5) : Bool) fun z48_69 =>
    if z48_69 = true then (
     J27 z48_69
    ) else (
     bindv (decide (x1.k = 6) : Bool) fun z49_71 =>
     J27 z49_71
    )
   )
   ) : (Bool) → Option ((Gt) × List (C × Bool))) fun J9 =>
  bindv (decide (x1.k = 2) : Bool) fun z20_72 =>
  if z20_72 = true then (
   J9 z20_72
  ) else (
   bindv (decide (x1.k = 3) : Bool) fun z21_74 =>
   if z21_74 = true then (
    J9 z21_74
   ) else (
    bindv (decide (x1.k = 4) : Bool) fun z22_76 =>
    J9 z22_76
   )
  )
 )
def eval_run_eval : Nat → Rn → Nd → (List (C × Bool)) → Option ((Gt) × List (C × Bool))
 | 0, _, _, _ => none
 | k + 1, x0, x1, m0 => eval_run_eval_B (eval_run_eval k) x0 x1 m0
end Go.Sp
end
section
namespace Go.Sp
open Go.Stp Go.ValP
def eval_Eval (x0 : Nd) (x1 : C) (x2 : List V) : Option (Rs) :=
 obind (eval_run_eval KK (⟨x2, x1⟩ : Rn) x0 ([] : List (C × Bool))) fun y18_7 =>
 bindv ((fun s12 =>
  chk (y18_7.2.length < 4611686018427387904 ∧ y18_7.2.length * 24 ≤ 140737488355328) <|
  some (⟨y18_7.1.v, (⟨s12.1, s12.2.1, s12.2.2⟩ : C), (srtK y18_7.2)⟩ : Rs)
  ) : (Int × Int × Int) → Option (Rs)) fun J12 =>
 bindv (decide (y18_7.1.v.k = 4) : Bool) fun z25_20 =>
 if z25_20 = true then (
  J12 (y18_7.1.c.s, y18_7.1.c.c, y18_7.1.c.r)
 ) else (
  J12 (0, 0, 0)
 )
end Go.Sp
end
section
namespace Go.Sp
open Go.Stp Go.ValP
def reckonerlaw13_fit  : Option (Bool) :=
 obind (value_Num (5 : Int)) fun y7_2 =>
 bindv (zeroPl.set (Int.toNat (64 * 0 + 0)) y7_2 : List V) fun zp0_3 =>
 obind (value_Bool true) fun y15_6 =>
 obind (tree_Value y15_6) fun y16_7 =>
 obind (tree_Cell (⟨(⟨0, 0, 0⟩ : C), false, false⟩ : Rf)) fun y18_9 =>
 obind (tree_Cell (⟨(⟨0, 1, 0⟩ : C), false, false⟩ : Rf)) fun y20_11 =>
 obind (tree_Apply (1 : Int) [y16_7, y18_9, y20_11]) fun y22_13 =>
 obind (eval_Eval y22_13 (⟨0, 0, 0⟩ : C) zp0_3) fun y26_15 =>
 obind (value_Num (5 : Int)) fun y29_18 =>
 bindv ((decide (y26_15.v.k = y29_18.k) && (decide (y26_15.v.n = y29_18.n) && decide (y26_15.v.s = y29_18.s))) : Bool) fun z30_19 =>
 bindv (decide ((y26_15.l.length : Int) = 1) : Bool) fun z35_20 =>
 bindv (z30_19 && z35_20 : Bool) fun z36_21 =>
 chk (z36_21 = true → (0 : Int) ≤ 0 ∧ 0 < (y26_15.l.length : Int)) <|
 bindv (gel y26_15.l 0 : C) fun z40_23 =>
 bindv ((decide (z40_23.s = 0) && (decide (z40_23.c = 0) && decide (z40_23.r = 0))) : Bool) fun z43_24 =>
 bindv (z36_21 && z43_24 : Bool) fun z44_25 =>
 some z44_25
end Go.Sp
end
section
namespace Go.Sp
open Go.Stp Go.ValP
def reckonerlaw05_ref (x0 : Int) (x1 : Int) : Option (Rf) :=
 bindv (bits .and .i64 x0 1 : Int) fun z7_2 =>
 bindv (decide (z7_2 = 1) : Bool) fun z8_3 =>
 bindv (bits .and .i64 x0 2 : Int) fun z10_4 =>
 bindv (decide (z10_4 = 2) : Bool) fun z11_5 =>
 bindv (decide (x1 = 4) : Bool) fun z14_6 =>
 bindv (z11_5 && z14_6 : Bool) fun z15_7 =>
 bindv (bits .and .i64 x0 3 : Int) fun z18_9 =>
 bindv (IntKind.wrap .i64 (Int.tdiv x0 4) : Int) fun z20_10 =>
 bindv (bits .and .i64 z20_10 3 : Int) fun z21_11 =>
 bindv ((fun s13 =>
  some (⟨(⟨s13, z18_9, z21_11⟩ : C), z8_3, z15_7⟩ : Rf)
  ) : (Int) → Option (Rf)) fun J13 =>
 bindv (decide (x1 = 4) : Bool) fun z27_14 =>
 bindv (decide (11 < x0) : Bool) fun z30_15 =>
 bindv (z27_14 && z30_15 : Bool) fun z31_16 =>
 if z31_16 = true then (
  J13 1
 ) else (
  J13 0
 )
def reckonerlaw05_Seed_Formula_B (rec : (List Int) → Int → Option ((Nd) × (List Int))) (x0 : List Int) (x1 : Int) : Option ((Nd) × (List Int)) :=
 bindv ((fun s3 =>
  bindv (Int.tmod s3.1 16 : Int) fun z30_5 =>
  bindv ((fun s7 =>
   bindv (decide (s7 < 2) : Bool) fun z44_9 =>
   if z44_9 = true then (
    bindv (IntKind.wrap .i64 (Int.tdiv s3.1 16) : Int) fun z46_11 =>
    bindv (IntKind.wrap .i64 (z46_11 * 500000) : Int) fun z47_12 =>
    obind (value_Num z47_12) fun y48_13 =>
    obind (tree_Value y48_13) fun y49_14 =>
    some (y49_14, s3.2)
   ) else (
    bindv (decide (s7 = 2) : Bool) fun z52_16 =>
    if z52_16 = true then (
     obind (value_Text ([97, 34, 98] : List UInt8)) fun y53_18 =>
     obind (tree_Value y53_18) fun y54_19 =>
     bindv (bits .and .i64 s3.1 16 : Int) fun z56_21 =>
     bindv (decide (z56_21 = 0) : Bool) fun z57_22 =>
     obind (value_Bool z57_22) fun y58_23 =>
     obind (tree_Value y58_23) fun y59_24 =>
     bindv (IntKind.wrap .i64 (Int.tdiv s3.1 16) : Int) fun z61_26 =>
     bindv (Int.tmod z61_26 7 : Int) fun z62_27 =>
     bindv (IntKind.wrap .i64 (z62_27 + 1) : Int) fun z63_28 =>
     obind (value_Fail z63_28) fun y64_29 =>
     obind (tree_Value y64_29) fun y65_30 =>
     obind (tree_Value (⟨0, 0, []⟩ : V)) fun y67_32 =>
     bindv (IntKind.wrap .i64 (Int.tdiv s3.1 64) : Int) fun z70_35 =>
     chk ((0 : Int) ≤ z70_35 ∧ z70_35 < ([y54_19, y59_24, y65_30, y67_32].length : Int)) <|
     bindv (gel [y54_19, y59_24, y65_30, y67_32] z70_35 : Nd) fun z71_37 =>
     some (z71_37, s3.2)
    ) else (
     bindv (decide (s7 < 5) : Bool) fun z75_39 =>
     if z75_39 = true then (
      bindv (IntKind.wrap .i64 (Int.tdiv s3.1 16) : Int) fun z77_41 =>
      obind (reckonerlaw05_ref z77_41 s7) fun y79_42 =>
      obind (tree_Cell y79_42) fun y80_43 =>
      some (y80_43, s3.2)
     ) else (
      bindv (decide (s7 = 5) : Bool) fun z83_45 =>
      if z83_45 = true then (
       bindv (IntKind.wrap .i64 (Int.tdiv s3.1 16) : Int) fun z85_47 =>
       obind (reckonerlaw05_ref z85_47 (3 : Int)) fun y86_48 =>
       bindv (bits .and .i64 s3.1 1 : Int) fun z92_51 =>
       bindv (IntKind.wrap .i64 (y86_48.c.c + z92_51) : Int) fun z93_52 =>
       bindv (IntKind.wrap .i64 (Int.tdiv s3.1 32) : Int) fun z98_53 =>
       bindv (Int.tmod z98_53 3 : Int) fun z99_54 =>
       bindv (IntKind.wrap .i64 (y86_48.c.r + z99_54) : Int) fun z100_55 =>
       obind (tree_Span y86_48 (⟨(⟨y86_48.c.s, z93_52, z100_55⟩ : C), y86_48.ac, y86_48.ar⟩ : Rf)) fun y107_56 =>
       some (y107_56, s3.2)
      ) else (
       bindv (decide (s7 = 6) : Bool) fun z110_58 =>
       if z110_58 = true then (
        bindv (IntKind.wrap .i64 (x1 - 1) : Int) fun z113_60 =>
        obind (rec s3.2 z113_60) fun y114_61 =>
        obind (tree_Unary (5 : Int) y114_61.1) fun y115_63 =>
        some (y115_63, y114_61.2)
       ) else (
        bindv (decide (s7 = 7) : Bool) fun z118_65 =>
        if z118_65 = true then (
         bindv (IntKind.wrap .i64 (x1 - 1) : Int) fun z121_67 =>
         obind (rec s3.2 z121_67) fun y122_68 =>
         obind (tree_Unary (6 : Int) y122_68.1) fun y123_70 =>
         some (y123_70, y122_68.2)
        ) else (
         bindv (decide (s7 < 12) : Bool) fun z126_72 =>
         if z126_72 = true then (
          bindv (IntKind.wrap .i64 (x1 - 1) : Int) fun z129_74 =>
          obind (rec s3.2 z129_74) fun y130_75 =>
          bindv (Int.tmod s3.1 11 : Int) fun z132_78 =>
          bindv (IntKind.wrap .i64 (z132_78 + 1) : Int) fun z133_79 =>
          bindv (IntKind.wrap .i64 (x1 - 1) : Int) fun z137_80 =>
          obind (rec y130_75.2 z137_80) fun y138_81 =>
          obind (tree_Binary z133_79 y130_75.1 y138_81.1) fun y139_83 =>
          some (y139_83, y138_81.2)
         ) else (
          bindv (IntKind.wrap .i64 (Int.tdiv s3.1 4) : Int) fun z141_85 =>
          bindv (Int.tmod z141_85 54 : Int) fun z142_86 =>
          bindv (IntKind.wrap .i64 (z142_86 + 1) : Int) fun z143_87 =>
          bindv ((fun s89 =>
           bindv ((fun s91 =>
            obind (tree_Apply s89 s91.2) fun y176_95 =>
            some (y176_95, s91.1)
            ) : ((List (Int)) × (List (Nd))) → Option ((Nd) × (List Int))) fun J91 =>
           bindv (fun (n97 : ((List (Int)) × (List (Nd))) → Option ((Nd) × (List Int))) (s97 : (List (Int)) × (List (Nd))) =>
            bindv (decide ((s97.2.length : Int) < 9) : Bool) fun z159_102 =>
            obind (if z159_102 = true then tree_Fits s89 (s97.2.length : Int) else some default) fun y164_103 =>
            bindv (!y164_103 : Bool) fun z165_104 =>
            bindv (z159_102 && z165_104 : Bool) fun z166_105 =>
            if z166_105 = true then (
             bindv (IntKind.wrap .i64 (x1 - 1) : Int) fun z170_108 =>
             obind (rec s97.1 z170_108) fun y171_109 =>
             chk (s97.2.length + [y171_109.1].length ≤ 9223372036854775807 ∧ (s97.2.length + [y171_109.1].length) * 152 ≤ 140737488355328) <|
             bindv (s97.2 ++ [y171_109.1] : List (Nd)) fun z173_114 =>
             n97 (y171_109.2, z173_114)
            ) else (
             J91 (s97.1, s97.2)
            )
            ) fun B97 =>
           loopF B97 KK (s3.2, ([] : List (Nd)))
           ) : (Int) → Option ((Nd) × (List Int))) fun J89 =>
          bindv (decide (0 < (s3.2.length : Int)) : Bool) fun z148_115 =>
          if z148_115 = true then (
           chk ((0 : Int) ≤ 0 ∧ 0 < (s3.2.length : Int)) <|
           bindv (gel s3.2 0 : Int) fun z152_118 =>
           bindv (IntKind.wrap .i64 z152_118 : Int) fun z154_119 =>
           bindv (Int.tmod z154_119 54 : Int) fun z155_120 =>
           bindv (IntKind.wrap .i64 (z155_120 + 1) : Int) fun z156_121 =>
           J89 z156_121
          ) else (
           J89 z143_87
          )
         )
        )
       )
      )
     )
    )
   )
   ) : (Int) → Option ((Nd) × (List Int))) fun J7 =>
  bindv (decide (x1 ≤ 0) : Bool) fun z32_122 =>
  bindv (decide ((s3.2.length : Int) = 0) : Bool) fun z38_123 =>
  bindv (z32_122 || z38_123 : Bool) fun z39_124 =>
  if z39_124 = true then (
   bindv (Int.tmod s3.1 6 : Int) fun z41_126 =>
   J7 z41_126
  ) else (
   J7 z30_5
  )
  ) : (Int × (List (Int))) → Option ((Nd) × (List Int))) fun J3 =>
 bindv (decide (0 < (x0.length : Int)) : Bool) fun z16_127 =>
 if z16_127 = true then (
  chk ((0 : Int) ≤ 0 ∧ 0 < (x0.length : Int)) <|
  bindv (gel x0 0 : Int) fun z20_130 =>
  bindv (IntKind.wrap .i64 z20_130 : Int) fun z22_131 =>
  chk ((0 : Int) ≤ (1 : Int) ∧ (1 : Int) ≤ (x0.length : Int) ∧ (x0.length : Int) ≤ (x0.length : Int)) <|
  bindv (cutL x0 (1 : Int) (x0.length : Int) : List (Int)) fun z27_133 =>
  J3 (z22_131, z27_133)
 ) else (
  J3 (0, x0)
 )
def reckonerlaw05_Seed_Formula : Nat → (List Int) → Int → Option ((Nd) × (List Int))
 | 0, _, _ => none
 | k + 1, x0, x1 => reckonerlaw05_Seed_Formula_B (reckonerlaw05_Seed_Formula k) x0 x1
end Go.Sp
end
section
namespace Go.Sp
open Go.Stp Go.ValP
def reckonerlaw13_asked (x0 : Rs) (x1 : C) : Option (Bool) :=
 bindv ((fun s4 =>
  some false
  ) : (Unit) → Option (Bool)) fun J4 =>
 bindv (fun (n6 : (Int) → Option (Bool)) (s6 : Int) =>
  bindv (decide (s6 < (x0.l.length : Int)) : Bool) fun z11_8 =>
  if z11_8 = true then (
   chk ((0 : Int) ≤ s6 ∧ s6 < (x0.l.length : Int)) <|
   bindv (gel x0.l s6 : C) fun z12_13 =>
   bindv ((decide (z12_13.s = x1.s) && (decide (z12_13.c = x1.c) && decide (z12_13.r = x1.r))) : Bool) fun z16_15 =>
   if z16_15 = true then (
    some true
   ) else (
    bindv (IntKind.wrap .i64 (s6 + 1) : Int) fun z17_17 =>
    n6 z17_17
   )
  ) else (
   J4 ()
  )
  ) fun B6 =>
 loopF B6 KK 0
def reckonerlaw13_EvalOrigins (x0 : List (Int)) (x1 : List (V)) : Option (Bool) :=
 obind (reckonerlaw13_fit) fun y9_3 =>
 bindv (!y9_3 : Bool) fun z10_4 =>
 if z10_4 = true then (
  some false
 ) else (
  bindv (decide (100 < (x0.length : Int)) : Bool) fun z13_7 =>
  bindv (decide (150 < (x1.length : Int)) : Bool) fun z17_8 =>
  bindv (z13_7 || z17_8 : Bool) fun z18_9 =>
  if z18_9 = true then (
   some true
  ) else (
   obind (reckonerlaw05_Seed_Formula KK x0 (5 : Int)) fun y19_11 =>
   obind (reckonerlaw13_Place x1) fun y21_14 =>
   obind (eval_Eval y19_11.1 (⟨2, 9, 9⟩ : C) y21_14) fun y27_18 =>
   bindv (!decide (y27_18.v.k = 4) : Bool) fun z31_22 =>
   if z31_22 = true then (
    some true
   ) else (
    bindv ((decide (y27_18.c.s = 2) && (decide (y27_18.c.c = 9) && decide (y27_18.c.r = 9))) : Bool) fun z35_24 =>
    obind (if (!z35_24) = true then reckonerlaw13_asked y27_18 y27_18.c else some default) fun y40_25 =>
    obind (if (!z35_24 && y40_25) = true then reckonerref13_Place_At y21_14 y27_18.c else some default) fun y45_26 =>
    bindv ((decide (y45_26.k = y27_18.v.k) && (decide (y45_26.n = y27_18.v.n) && decide (y45_26.s = y27_18.v.s))) : Bool) fun z48_27 =>
    bindv (y40_25 && z48_27 : Bool) fun z49_28 =>
    bindv (z35_24 || z49_28 : Bool) fun z50_29 =>
    some z50_29
   )
  )
 )
end Go.Sp
end
