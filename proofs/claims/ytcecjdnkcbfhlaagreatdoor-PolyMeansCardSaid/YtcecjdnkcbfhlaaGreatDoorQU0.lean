/- Joined texts. -/
import Derived.Test.YtcecjdnkcbfhlaaGreatDoorQM0
import Derived.Test.YtcecjdnkcbfhlaaGreatDoorQS0
set_option linter.unusedSimpArgs false
set_option linter.unusedVariables false
set_option linter.unusedSectionVars false
section
namespace Go.Sp
open Go.Stp Go.ValP
def rowL (a b : C) (i : Nat) : List C := (List.range (b.c - a.c + 1).toNat).map fun j : Nat => ⟨a.s, a.c + j, a.r + i⟩
def upL (a b : C) (i j : Nat) : List C := ((List.range i).flatMap (rowL a b)) ++ (List.range j).map fun j : Nat => (⟨a.s, a.c + j, a.r + i⟩ : C)
def cellsL (a b : C) : List C := (List.range (b.r - a.r + 1).toNat).flatMap (rowL a b)
def addr_Cells (a b : C) : Option (List C) :=
 obind (addr_Order a b) fun o =>
 if o.2.2 = true then
  chk ((-9223372036854775808 ≤ o.1.c ∧ o.2.1.c < 9223372036854775807) ∧ -9223372036854775808 ≤ o.1.r ∧ o.2.1.r < 9223372036854775807) <|
  some (cellsL o.1 o.2.1)
 else some []
theorem upL_succ {a b : C} {i j : Nat} : upL a b i j ++ [⟨a.s, a.c + j, a.r + i⟩] = upL a b i (j + 1) := by
 unfold upL
 rw [List.append_assoc, List.range_succ, List.map_append]
 rfl
theorem upL_row {a b : C} {i : Nat} : upL a b i (b.c - a.c + 1).toNat = upL a b (i + 1) 0 := by
 unfold upL
 rw [List.range_succ, List.flatMap_append]
 simp [rowL]
theorem upL_all {a b : C} : upL a b (b.r - a.r + 1).toNat 0 = cellsL a b := by simp [upL, cellsL]
theorem upL_prefix {a b : C} {i j : Nat} (hi : i < (b.r - a.r + 1).toNat) (hj : j ≤ (b.c - a.c + 1).toNat) : upL a b i j <+: cellsL a b := by
 unfold upL cellsL
 obtain ⟨m, hm⟩ : ∃ m, (b.r - a.r + 1).toNat = i + (1 + m) := ⟨(b.r - a.r + 1).toNat - i - 1, by omega⟩
 obtain ⟨k, hk⟩ : ∃ k, (b.c - a.c + 1).toNat = j + k := ⟨(b.c - a.c + 1).toNat - j, by omega⟩
 rw [hm, List.range_add, List.flatMap_append, List.range_add, List.map_append, List.flatMap_append]
 have e : List.flatMap (rowL a b) (List.map (fun x => i + x) (List.range 1)) = rowL a b i := by simp
 rw [e]
 refine List.prefix_append_right_inj _ |>.2 ?_
 unfold rowL
 rw [hk, List.range_add, List.map_append, List.append_assoc]
 exact List.prefix_append _ _
end Go.Sp
end
section
namespace Go.Sp
open Go.Stp Go.ValP
def poly_binary (rec : Nd → (List V) → Option ((List (T)) × Bool)) (x0 : Nd) (x1 : List V) : Option ((List (T)) × Bool) :=
 chk ((0 : Int) ≤ 0 ∧ 0 < (x0.l.length : Int)) <|
 bindv (gel x0.l 0 : Nd) fun z13_3 =>
 obind (rec z13_3 x1) fun y16_5 =>
 chk ((0 : Int) ≤ 1 ∧ 1 < (x0.l.length : Int)) <|
 bindv (gel x0.l 1 : Nd) fun z22_8 =>
 obind (rec z22_8 x1) fun y25_10 =>
 bindv (!y16_5.2 : Bool) fun z30_13 =>
 bindv (!y25_10.2 : Bool) fun z33_14 =>
 bindv (z30_13 || z33_14 : Bool) fun z34_15 =>
 if z34_15 = true then (
  some ([], false)
 ) else (
  bindv (decide (x0.op = 1) : Bool) fun z38_17 =>
  if z38_17 = true then (
   obind (poly_Add [y16_5.1, y25_10.1]) fun y42_20 =>
   some (y42_20.1, y42_20.2)
  ) else (
   bindv (decide (x0.op = 3) : Bool) fun z48_22 =>
   if z48_22 = true then (
    obind (poly_Mul y16_5.1 y25_10.1) fun y51_24 =>
    some (y51_24.1, y51_24.2)
   ) else (
    some ([], false)
   )
  )
 )
def poly_call (rec : Nd → (List V) → Option ((List (T)) × Bool)) (x0 : Nd) (x1 : List V) : Option ((List (T)) × Bool) :=
 bindv ((fun s6 =>
  obind (poly_Add s6.2.2) fun y160_11 =>
  some (y160_11.1, y160_11.2)
  ) : ((List (T)) × Bool × (List (List (T)))) → Option ((List (T)) × Bool)) fun J6 =>
 obind (tree_Name x0.op) fun y27_13 =>
 bindv (decide (y27_13 = ([83, 85, 77] : List UInt8)) : Bool) fun z29_15 =>
 if z29_15 = true then (
  bindv (fun (n18 : (Int × (List (T)) × Bool × (List (List (T)))) → Option ((List (T)) × Bool)) (s18 : Int × (List (T)) × Bool × (List (List (T)))) =>
   bindv (decide (s18.1 < (x0.l.length : Int)) : Bool) fun z34_23 =>
   if z34_23 = true then (
    chk ((0 : Int) ≤ s18.1 ∧ s18.1 < (x0.l.length : Int)) <|
    bindv (gel x0.l s18.1 : Nd) fun z35_28 =>
    obind (eval_Area x1 z35_28) fun y40_31 =>
    bindv (!y40_31.2.2 : Bool) fun z45_35 =>
    if z45_35 = true then (
     obind (rec z35_28 x1) fun y49_37 =>
     bindv (!y49_37.2 : Bool) fun z53_40 =>
     if z53_40 = true then (
      some ([], false)
     ) else (
      chk (s18.2.2.2.length + [y49_37.1].length ≤ 9223372036854775807 ∧ (s18.2.2.2.length + [y49_37.1].length) * 24 ≤ 140737488355328) <|
      bindv (s18.2.2.2 ++ [y49_37.1] : List (List (T))) fun z57_45 =>
      bindv (IntKind.wrap .i64 (s18.1 + 1) : Int) fun z67_46 =>
      n18 (z67_46, s18.2.1, s18.2.2.1, z57_45)
     )
    ) else (
     obind (addr_Cells y40_31.1 y40_31.2.1) fun y60_47 =>
     bindv (fun (s49 : (List (List (T)))) (x : C) =>
      obind (poly_Var x) fun y64_52 =>
      chk (s49.length + [y64_52].length ≤ 9223372036854775807 ∧ (s49.length + [y64_52].length) * 24 ≤ 140737488355328) <|
      bindv (s49 ++ [y64_52] : List (List (T))) fun z66_57 =>
      some z66_57
      ) fun B49 =>
     obind (foldO B49 s18.2.2.2 y60_47) fun f49 =>
     bindv (IntKind.wrap .i64 (s18.1 + 1) : Int) fun z67_59 =>
     n18 (z67_59, s18.2.1, s18.2.2.1, f49)
    )
   ) else (
    J6 (s18.2.1, s18.2.2.1, s18.2.2.2)
   )
   ) fun B18 =>
  loopF B18 KK (0, [], false, ([] : List (List (T))))
 ) else (
  bindv (decide (y27_13 = ([83, 85, 77, 80, 82, 79, 68, 85, 67, 84] : List UInt8)) : Bool) fun z69_60 =>
  if z69_60 = true then (
   chk ((0 : Int) ≤ 0 ∧ 0 < (x0.l.length : Int)) <|
   bindv (gel x0.l 0 : Nd) fun z74_63 =>
   obind (eval_Area x1 z74_63) fun y76_65 =>
   chk ((0 : Int) ≤ 1 ∧ 1 < (x0.l.length : Int)) <|
   bindv (gel x0.l 1 : Nd) fun z84_69 =>
   obind (eval_Area x1 z84_69) fun y86_71 =>
   bindv (!y76_65.2.2 : Bool) fun z91_75 =>
   bindv (!y86_71.2.2 : Bool) fun z94_76 =>
   bindv (z91_75 || z94_76 : Bool) fun z95_77 =>
   bindv (IntKind.wrap .i64 (y76_65.2.1.c - y76_65.1.c) : Int) fun z101_78 =>
   bindv (IntKind.wrap .i64 (y86_71.2.1.c - y86_71.1.c) : Int) fun z106_79 =>
   bindv (!decide (z101_78 = z106_79) : Bool) fun z107_80 =>
   bindv (z95_77 || z107_80 : Bool) fun z108_81 =>
   bindv (IntKind.wrap .i64 (y76_65.2.1.r - y76_65.1.r) : Int) fun z114_82 =>
   bindv (IntKind.wrap .i64 (y86_71.2.1.r - y86_71.1.r) : Int) fun z119_83 =>
   bindv (!decide (z114_82 = z119_83) : Bool) fun z120_84 =>
   bindv (z108_81 || z120_84 : Bool) fun z121_85 =>
   if z121_85 = true then (
    some ([], false)
   ) else (
    obind (addr_Cells y76_65.1 y76_65.2.1) fun y124_87 =>
    bindv (fun (s89 : (List (T)) × Bool × (List (List (T)))) (x : C) =>
     bindv (IntKind.wrap .i64 (y86_71.1.c + x.c) : Int) fun z132_94 =>
     bindv (IntKind.wrap .i64 (z132_94 - y76_65.1.c) : Int) fun z135_95 =>
     bindv (IntKind.wrap .i64 (y86_71.1.r + x.r) : Int) fun z140_96 =>
     bindv (IntKind.wrap .i64 (z140_96 - y76_65.1.r) : Int) fun z143_97 =>
     obind (poly_Var x) fun y147_100 =>
     obind (poly_Var (⟨y86_71.1.s, z135_95, z143_97⟩ : C)) fun y149_102 =>
     obind (poly_Mul y147_100 y149_102) fun y150_104 =>
     bindv (!y150_104.2 : Bool) fun z154_110 =>
     if z154_110 = true then (
      none
     ) else (
      chk (s89.2.2.length + [y150_104.1].length ≤ 9223372036854775807 ∧ (s89.2.2.length + [y150_104.1].length) * 24 ≤ 140737488355328) <|
      bindv (s89.2.2 ++ [y150_104.1] : List (List (T))) fun z158_115 =>
      some (s89.1, s89.2.1, z158_115)
     )
     ) fun B89 =>
    obind (foldO B89 ([], false, ([] : List (List (T)))) y124_87) fun f89 =>
    J6 (f89.1, f89.2.1, f89.2.2)
   )
  ) else (
   some ([], false)
  )
 )
def poly_Of_B (rec : Nd → (List V) → Option ((List (T)) × Bool)) (x0 : Nd) (x1 : List V) : Option ((List (T)) × Bool) :=
 bindv (decide (x0.k = 1) : Bool) fun z14_4 =>
 if z14_4 = true then (
  obind (num_Whole x0.v.n) fun y19_6 =>
  bindv (!decide (x0.v.k = 1) : Bool) fun z25_8 =>
  bindv (!y19_6.2 : Bool) fun z28_9 =>
  bindv (z25_8 || z28_9 : Bool) fun z29_10 =>
  if z29_10 = true then (
   some ([], false)
  ) else (
   obind (poly_Const y19_6.1) fun y31_12 =>
   some (y31_12.1, y31_12.2)
  )
 ) else (
  bindv ((fun s15 =>
   if s15 = true then (
    obind (eval_Area x1 x0) fun y41_17 =>
    bindv (!y41_17.2.2 : Bool) fun z46_21 =>
    bindv (!((decide (y41_17.1.s = y41_17.2.1.s) && (decide (y41_17.1.c = y41_17.2.1.c) && decide (y41_17.1.r = y41_17.2.1.r)))) : Bool) fun z50_22 =>
    bindv (z46_21 || z50_22 : Bool) fun z51_23 =>
    if z51_23 = true then (
     some ([], false)
    ) else (
     obind (poly_Var y41_17.1) fun y53_25 =>
     some (y53_25, true)
    )
   ) else (
    bindv (decide (x0.k = 7) : Bool) fun z55_28 =>
    if z55_28 = true then (
     obind (poly_binary rec x0 x1) fun y58_30 =>
     some (y58_30.1, y58_30.2)
    ) else (
     bindv (decide (x0.k = 8) : Bool) fun z62_32 =>
     if z62_32 = true then (
      obind (poly_call rec x0 x1) fun y65_34 =>
      some (y65_34.1, y65_34.2)
     ) else (
      some ([], false)
     )
    )
   )
   ) : (Bool) → Option ((List (T)) × Bool)) fun J15 =>
  bindv (decide (x0.k = 2) : Bool) fun z35_36 =>
  if z35_36 = true then (
   J15 z35_36
  ) else (
   bindv (decide (x0.k = 3) : Bool) fun z36_38 =>
   if z36_38 = true then (
    J15 z36_38
   ) else (
    bindv (decide (x0.k = 4) : Bool) fun z37_40 =>
    J15 z37_40
   )
  )
 )
def poly_Of : Nat → Nd → (List V) → Option ((List (T)) × Bool)
 | 0, _, _ => none
 | k + 1, x0, x1 => poly_Of_B (poly_Of k) x0 x1
end Go.Sp
end
section
namespace Go.Sp
open Go.Stp Go.ValP
def tree_kids (x0 : Nd) : Option (Bool) :=
 bindv ((fun s5 =>
  if s5 = true then (
   bindv (decide ((x0.l.length : Int) = 1) : Bool) fun z11_7 =>
   some z11_7
  ) else (
   bindv (decide (x0.k = 7) : Bool) fun z13_8 =>
   if z13_8 = true then (
    bindv (decide ((x0.l.length : Int) = 2) : Bool) fun z17_10 =>
    bindv (decide (1 ≤ x0.op) : Bool) fun z21_11 =>
    bindv (z17_10 && z21_11 : Bool) fun z22_12 =>
    bindv (decide (x0.op ≤ 11) : Bool) fun z26_13 =>
    bindv (z22_12 && z26_13 : Bool) fun z27_14 =>
    some z27_14
   ) else (
    bindv (decide (x0.k = 8) : Bool) fun z29_15 =>
    if z29_15 = true then (
     obind (tree_Fits x0.op (x0.l.length : Int)) fun y35_17 =>
     some y35_17
    ) else (
     bindv (decide (x0.k = 1) : Bool) fun z37_18 =>
     if z37_18 = true then (
      bindv (decide ((x0.l.length : Int) = 0) : Bool) fun z41_20 =>
      obind (if z41_20 = true then value_Right x0.v else some default) fun y45_21 =>
      bindv (z41_20 && y45_21 : Bool) fun z46_22 =>
      some z46_22
     ) else (
      bindv (decide (x0.k = 2) : Bool) fun z48_23 =>
      if z48_23 = true then (
       bindv (decide ((x0.l.length : Int) = 0) : Bool) fun z52_25 =>
       obind (if z52_25 = true then addr_Right x0.a.c else some default) fun y57_26 =>
       bindv (z52_25 && y57_26 : Bool) fun z58_27 =>
       some z58_27
      ) else (
       bindv (decide (x0.k = 3) : Bool) fun z60_28 =>
       if z60_28 = true then (
        bindv (decide ((x0.l.length : Int) = 0) : Bool) fun z64_30 =>
        obind (if z64_30 = true then addr_Right x0.a.c else some default) fun y69_31 =>
        bindv (z64_30 && y69_31 : Bool) fun z70_32 =>
        obind (if z70_32 = true then addr_Right x0.b.c else some default) fun y75_33 =>
        bindv (z70_32 && y75_33 : Bool) fun z76_34 =>
        bindv (decide (x0.a.c.s = x0.b.c.s) : Bool) fun z86_35 =>
        bindv (z76_34 && z86_35 : Bool) fun z87_36 =>
        some z87_36
       ) else (
        bindv (decide (x0.k = 4) : Bool) fun z89_37 =>
        if z89_37 = true then (
         none
        ) else (
         some false
        )
       )
      )
     )
    )
   )
  )
  ) : (Bool) → Option (Bool)) fun J5 =>
 bindv (decide (x0.k = 5) : Bool) fun z6_40 =>
 if z6_40 = true then (
  J5 z6_40
 ) else (
  bindv (decide (x0.k = 6) : Bool) fun z7_42 =>
  J5 z7_42
 )
def tree_right_B (rec : Nd → Int → Option (Bool)) (x0 : Nd) (x1 : Int) : Option (Bool) :=
 bindv (decide (x1 = 0) : Bool) fun z8_3 =>
 obind (if (!z8_3) = true then tree_kids x0 else some default) fun y11_4 =>
 bindv (!y11_4 : Bool) fun z12_5 =>
 bindv (z8_3 || z12_5 : Bool) fun z13_6 =>
 if z13_6 = true then (
  some false
 ) else (
  bindv ((fun s9 =>
   some true
   ) : (Unit) → Option (Bool)) fun J9 =>
  bindv (fun (n11 : (Int) → Option (Bool)) (s11 : Int) =>
   bindv (decide (s11 < (x0.l.length : Int)) : Bool) fun z18_13 =>
   if z18_13 = true then (
    chk ((0 : Int) ≤ s11 ∧ s11 < (x0.l.length : Int)) <|
    bindv (gel x0.l s11 : Nd) fun z19_18 =>
    bindv (IntKind.wrap .i64 (x1 - 1) : Int) fun z23_21 =>
    obind (rec z19_18 z23_21) fun y24_22 =>
    bindv (!y24_22 : Bool) fun z25_23 =>
    if z25_23 = true then (
     some false
    ) else (
     bindv (IntKind.wrap .i64 (s11 + 1) : Int) fun z26_25 =>
     n11 z26_25
    )
   ) else (
    J9 ()
   )
   ) fun B11 =>
  loopF B11 KK 0
 )
def tree_right : Nat → Nd → Int → Option (Bool)
 | 0, _, _ => none
 | k + 1, x0, x1 => tree_right_B (tree_right k) x0 x1
def tree_Right (x0 : Nd) : Option (Bool) :=
 obind (tree_right KK x0 (200 : Int)) fun y4_2 =>
 some y4_2
end Go.Sp
end
section
namespace Go.Sp
open Go.Stp Go.ValP
def eval_run_strict (rec : Rn → Nd → (List (C × Bool)) → Option ((Gt) × List (C × Bool))) (x0 : Rn) (x1 : Nd) (m0 : List (C × Bool)) : Option ((Gt) × List (C × Bool)) :=
 bindv ((fun s5 =>
  obind (funcs_Apply x1.op s5.2.2.2.2.2.2.2) fun y93_8 =>
  obind (eval_run_made x0 y93_8) fun y94_9 =>
  some (y94_9, s5.1)
  ) : ((List (C × Bool)) × Int × Int × (List UInt8) × Int × Int × Int × (List (Arg))) → Option ((Gt) × List (C × Bool))) fun J5 =>
 bindv (fun (n11 : (Int × (List (C × Bool)) × Int × Int × (List UInt8) × Int × Int × Int × (List (Arg))) → Option ((Gt) × List (C × Bool))) (s11 : Int × (List (C × Bool)) × Int × Int × (List UInt8) × Int × Int × Int × (List (Arg))) =>
  bindv (decide (s11.1 < (x1.l.length : Int)) : Bool) fun z20_15 =>
  if z20_15 = true then (
   chk ((0 : Int) ≤ s11.1 ∧ s11.1 < (x1.l.length : Int)) <|
   bindv (gel x1.l s11.1 : Nd) fun z21_20 =>
   obind (eval_Area x0.p z21_20) fun y30_25 =>
   bindv ((fun s29 =>
    bindv ((fun s33 =>
     chk (s11.2.2.2.2.2.2.2.2.length + [(⟨s29.2.1, s29.2.2.1, s33.2.2.2.2.2.2⟩ : Arg)].length ≤ 9223372036854775807 ∧ (s11.2.2.2.2.2.2.2.2.length + [(⟨s29.2.1, s29.2.2.1, s33.2.2.2.2.2.2⟩ : Arg)].length) * 40 ≤ 140737488355328) <|
     bindv (s11.2.2.2.2.2.2.2.2 ++ [(⟨s29.2.1, s29.2.2.1, s33.2.2.2.2.2.2⟩ : Arg)] : List (Arg)) fun z87_40 =>
     bindv (IntKind.wrap .i64 (s11.1 + 1) : Int) fun z88_41 =>
     n11 (z88_41, s29.1, s33.1, s33.2.1, s33.2.2.1, s33.2.2.2.1, s33.2.2.2.2.1, s33.2.2.2.2.2.1, z87_40)
     ) : (Int × Int × (List UInt8) × Int × Int × Int × (List (V))) → Option ((Gt) × List (C × Bool))) fun J33 =>
    bindv (fun (n43 : (Int × Int × Int × (List UInt8) × Int × Int × Int × (List (V))) → Option ((Gt) × List (C × Bool))) (s43 : Int × Int × Int × (List UInt8) × Int × Int × Int × (List (V))) =>
     bindv (decide (s43.1 < (s29.2.2.2.length : Int)) : Bool) fun z62_47 =>
     if z62_47 = true then (
      chk ((0 : Int) ≤ s43.1 ∧ s43.1 < (s29.2.2.2.length : Int)) <|
      bindv (gel s29.2.2.2 s43.1 : Gt) fun z63_52 =>
      bindv (decide (z63_52.v.k = 4) : Bool) fun z68_55 =>
      obind (if z68_55 = true then funcs_Bears x1.op else some default) fun y72_56 =>
      bindv (!y72_56 : Bool) fun z73_57 =>
      bindv (z68_55 && z73_57 : Bool) fun z74_58 =>
      if z74_58 = true then (
       some (z63_52, s29.1)
      ) else (
       chk (s43.2.2.2.2.2.2.2.length + [z63_52.v].length ≤ 9223372036854775807 ∧ (s43.2.2.2.2.2.2.2.length + [z63_52.v].length) * 32 ≤ 140737488355328) <|
       bindv (s43.2.2.2.2.2.2.2 ++ [z63_52.v] : List (V)) fun z81_63 =>
       bindv (IntKind.wrap .i64 (s43.1 + 1) : Int) fun z83_64 =>
       n43 (z83_64, s43.2.1, s43.2.2.1, s43.2.2.2.1, s43.2.2.2.2.1, s43.2.2.2.2.2.1, s43.2.2.2.2.2.2.1, z81_63)
      )
     ) else (
      J33 (s43.2.1, s43.2.2.1, s43.2.2.2.1, s43.2.2.2.2.1, s43.2.2.2.2.2.1, s43.2.2.2.2.2.2.1, s43.2.2.2.2.2.2.2)
     )
     ) fun B43 =>
    loopF B43 KK (0, s11.2.2.1, s11.2.2.2.1, s11.2.2.2.2.1, s11.2.2.2.2.2.1, s11.2.2.2.2.2.2.1, s11.2.2.2.2.2.2.2.1, ([] : List (V)))
    ) : ((List (C × Bool)) × Bool × Int × (List (Gt))) → Option ((Gt) × List (C × Bool))) fun J29 =>
   if y30_25.2.2 = true then (
    bindv (IntKind.wrap .i64 (y30_25.2.1.c - y30_25.1.c) : Int) fun z39_66 =>
    bindv (IntKind.wrap .i64 (z39_66 + 1) : Int) fun z40_67 =>
    obind (addr_Cells y30_25.1 y30_25.2.1) fun y45_68 =>
    bindv (fun (s70 : (List (C × Bool)) × (List (Gt))) (x : C) =>
     obind (eval_run_cell x0 x s70.1) fun y50_73 =>
     chk (s70.2.length + [y50_73.1].length ≤ 9223372036854775807 ∧ (s70.2.length + [y50_73.1].length) * 56 ≤ 140737488355328) <|
     bindv (s70.2 ++ [y50_73.1] : List (Gt)) fun z52_77 =>
     some (y50_73.2, z52_77)
     ) fun B70 =>
    obind (foldO B70 (s11.2.1, ([] : List (Gt))) y45_68) fun f70 =>
    J29 (f70.1, true, z40_67, f70.2)
   ) else (
    obind (rec x0 z21_20 s11.2.1) fun y56_79 =>
    chk (([] : List (Gt)).length + [y56_79.1].length ≤ 9223372036854775807 ∧ (([] : List (Gt)).length + [y56_79.1].length) * 56 ≤ 140737488355328) <|
    bindv (([] : List (Gt)) ++ [y56_79.1] : List (Gt)) fun z58_83 =>
    J29 (y56_79.2, false, 1, z58_83)
   )
  ) else (
   J5 (s11.2.1, s11.2.2.1, s11.2.2.2.1, s11.2.2.2.2.1, s11.2.2.2.2.2.1, s11.2.2.2.2.2.2.1, s11.2.2.2.2.2.2.2.1, s11.2.2.2.2.2.2.2.2)
  )
  ) fun B11 =>
 loopF B11 KK (0, m0, 0, 0, [], 0, 0, 0, ([] : List (Arg)))
def eval_run_eval_B (rec : Rn → Nd → (List (C × Bool)) → Option ((Gt) × List (C × Bool))) (x0 : Rn) (x1 : Nd) (m0 : List (C × Bool)) : Option ((Gt) × List (C × Bool)) :=
 bindv (decide (x1.k = 1) : Bool) fun z14_5 =>
 if z14_5 = true then (
  obind (eval_run_made x0 x1.v) fun y18_7 =>
  some (y18_7, m0)
 ) else (
  bindv ((fun s9 =>
   if s9 = true then (
    obind (eval_Area x0.p x1) fun y29_11 =>
    bindv (!y29_11.2.2 : Bool) fun z34_15 =>
    if z34_15 = true then (
     obind (value_Fail (4 : Int)) fun y36_17 =>
     obind (eval_run_made x0 y36_17) fun y37_18 =>
     some (y37_18, m0)
    ) else (
     bindv (!((decide (y29_11.1.s = y29_11.2.1.s) && (decide (y29_11.1.c = y29_11.2.1.c) && decide (y29_11.1.r = y29_11.2.1.r)))) : Bool) fun z40_20 =>
     if z40_20 = true then (
      obind (value_Fail (2 : Int)) fun y42_22 =>
      obind (eval_run_made x0 y42_22) fun y43_23 =>
      some (y43_23, m0)
     ) else (
      obind (eval_run_cell x0 y29_11.1 m0) fun y46_24 =>
      some (y46_24.1, y46_24.2)
     )
    )
   ) else (
    bindv ((fun s27 =>
     if s27 = true then (
      chk ((0 : Int) ≤ 0 ∧ 0 < (x1.l.length : Int)) <|
      bindv (gel x1.l 0 : Nd) fun z53_30 =>
      obind (rec x0 z53_30 m0) fun y55_32 =>
      bindv (decide (y55_32.1.v.k = 4) : Bool) fun z59_36 =>
      if z59_36 = true then (
       some (y55_32.1, y55_32.2)
      ) else (
       none
      )
     ) else (
      bindv (decide (x1.k = 7) : Bool) fun z69_38 =>
      if z69_38 = true then (
       chk ((0 : Int) ≤ 0 ∧ 0 < (x1.l.length : Int)) <|
       bindv (gel x1.l 0 : Nd) fun z73_41 =>
       obind (rec x0 z73_41 m0) fun y75_43 =>
       bindv (decide (y75_43.1.v.k = 4) : Bool) fun z79_47 =>
       if z79_47 = true then (
        some (y75_43.1, y75_43.2)
       ) else (
        chk ((0 : Int) ≤ 1 ∧ 1 < (x1.l.length : Int)) <|
        bindv (gel x1.l 1 : Nd) fun z84_50 =>
        obind (rec x0 z84_50 y75_43.2) fun y86_52 =>
        bindv (decide (y86_52.1.v.k = 4) : Bool) fun z90_56 =>
        if z90_56 = true then (
         some (y86_52.1, y86_52.2)
        ) else (
         obind (funcs_Binary x1.op y75_43.1.v y86_52.1.v) fun y99_58 =>
         obind (eval_run_made x0 y99_58) fun y100_59 =>
         some (y100_59, y86_52.2)
        )
       )
      ) else (
       bindv (decide (x1.op ≤ 5) : Bool) fun z103_61 =>
       if z103_61 = true then (
        none
       ) else (
        obind (eval_run_strict rec x0 x1 m0) fun y109_63 =>
        some (y109_63.1, y109_63.2)
       )
      )
     )
     ) : (Bool) → Option ((Gt) × List (C × Bool))) fun J27 =>
    bindv (decide (x1.k = 5) : Bool) fun z48_65 =>
    if z48_65 = true then (
     J27 z48_65
    ) else (
     bindv (decide (x1.k = 6) : Bool) fun z49_67 =>
     J27 z49_67
    )
   )
   ) : (Bool) → Option ((Gt) × List (C × Bool))) fun J9 =>
  bindv (decide (x1.k = 2) : Bool) fun z20_68 =>
  if z20_68 = true then (
   J9 z20_68
  ) else (
   bindv (decide (x1.k = 3) : Bool) fun z21_70 =>
   if z21_70 = true then (
    J9 z21_70
   ) else (
    bindv (decide (x1.k = 4) : Bool) fun z22_72 =>
    J9 z22_72
   )
  )
 )
def eval_run_eval : Nat → Rn → Nd → (List (C × Bool)) → Option ((Gt) × List (C × Bool))
 | 0, _, _, _ => none
 | k + 1, x0, x1, m0 => eval_run_eval_B (eval_run_eval k) x0 x1 m0
end Go.Sp
end
section
namespace Go.Sp
open Go.Stp Go.ValP
def eval_Eval (x0 : Nd) (x1 : C) (x2 : List V) : Option (Rs) :=
 obind (eval_run_eval KK (⟨x2, x1⟩ : Rn) x0 ([] : List (C × Bool))) fun y18_7 =>
 bindv ((fun s12 =>
  chk (y18_7.2.length < 4611686018427387904 ∧ y18_7.2.length * 24 ≤ 140737488355328) <|
  some (⟨y18_7.1.v, (⟨s12.1, s12.2.1, s12.2.2⟩ : C), (srtK y18_7.2)⟩ : Rs)
  ) : (Int × Int × Int) → Option (Rs)) fun J12 =>
 bindv (decide (y18_7.1.v.k = 4) : Bool) fun z25_20 =>
 if z25_20 = true then (
  J12 (y18_7.1.c.s, y18_7.1.c.c, y18_7.1.c.r)
 ) else (
  J12 (0, 0, 0)
 )
end Go.Sp
end
section
namespace Go.Sp
open Go.Stp Go.ValP
def reckonerlaw05_ref (x0 : Int) (x1 : Int) : Option (Rf) :=
 bindv (bits .and .i64 x0 1 : Int) fun z7_2 =>
 bindv (decide (z7_2 = 1) : Bool) fun z8_3 =>
 bindv (bits .and .i64 x0 2 : Int) fun z10_4 =>
 bindv (decide (z10_4 = 2) : Bool) fun z11_5 =>
 bindv (decide (x1 = 4) : Bool) fun z14_6 =>
 bindv (z11_5 && z14_6 : Bool) fun z15_7 =>
 bindv (bits .and .i64 x0 3 : Int) fun z18_9 =>
 bindv (IntKind.wrap .i64 (Int.tdiv x0 4) : Int) fun z20_10 =>
 bindv (bits .and .i64 z20_10 3 : Int) fun z21_11 =>
 bindv ((fun s13 =>
  some (⟨(⟨s13, z18_9, z21_11⟩ : C), z8_3, z15_7⟩ : Rf)
  ) : (Int) → Option (Rf)) fun J13 =>
 bindv (decide (x1 = 4) : Bool) fun z27_14 =>
 bindv (decide (11 < x0) : Bool) fun z30_15 =>
 bindv (z27_14 && z30_15 : Bool) fun z31_16 =>
 if z31_16 = true then (
  J13 1
 ) else (
  J13 0
 )
def reckonerlaw05_Seed_Formula_B (rec : (List Int) → Int → Option ((Nd) × (List Int))) (x0 : List Int) (x1 : Int) : Option ((Nd) × (List Int)) :=
 bindv ((fun s3 =>
  bindv (Int.tmod s3.1 16 : Int) fun z30_5 =>
  bindv ((fun s7 =>
   bindv (decide (s7 < 2) : Bool) fun z44_9 =>
   if z44_9 = true then (
    bindv (IntKind.wrap .i64 (Int.tdiv s3.1 16) : Int) fun z46_11 =>
    bindv (IntKind.wrap .i64 (z46_11 * 500000) : Int) fun z47_12 =>
    obind (value_Num z47_12) fun y48_13 =>
    obind (tree_Value y48_13) fun y49_14 =>
    some (y49_14, s3.2)
   ) else (
    bindv (decide (s7 = 2) : Bool) fun z52_16 =>
    if z52_16 = true then (
     obind (value_Text ([97, 34, 98] : List UInt8)) fun y53_18 =>
     obind (tree_Value y53_18) fun y54_19 =>
     bindv (bits .and .i64 s3.1 16 : Int) fun z56_21 =>
     bindv (decide (z56_21 = 0) : Bool) fun z57_22 =>
     obind (value_Bool z57_22) fun y58_23 =>
     obind (tree_Value y58_23) fun y59_24 =>
     bindv (IntKind.wrap .i64 (Int.tdiv s3.1 16) : Int) fun z61_26 =>
     bindv (Int.tmod z61_26 7 : Int) fun z62_27 =>
     bindv (IntKind.wrap .i64 (z62_27 + 1) : Int) fun z63_28 =>
     obind (value_Fail z63_28) fun y64_29 =>
     obind (tree_Value y64_29) fun y65_30 =>
     obind (tree_Value (⟨0, 0, []⟩ : V)) fun y67_32 =>
     bindv (IntKind.wrap .i64 (Int.tdiv s3.1 64) : Int) fun z70_35 =>
     chk ((0 : Int) ≤ z70_35 ∧ z70_35 < ([y54_19, y59_24, y65_30, y67_32].length : Int)) <|
     bindv (gel [y54_19, y59_24, y65_30, y67_32] z70_35 : Nd) fun z71_37 =>
     some (z71_37, s3.2)
    ) else (
     bindv (decide (s7 < 5) : Bool) fun z75_39 =>
     if z75_39 = true then (
      bindv (IntKind.wrap .i64 (Int.tdiv s3.1 16) : Int) fun z77_41 =>
      obind (reckonerlaw05_ref z77_41 s7) fun y79_42 =>
      obind (tree_Cell y79_42) fun y80_43 =>
      some (y80_43, s3.2)
     ) else (
      bindv (decide (s7 = 5) : Bool) fun z83_45 =>
      if z83_45 = true then (
       bindv (IntKind.wrap .i64 (Int.tdiv s3.1 16) : Int) fun z85_47 =>
       obind (reckonerlaw05_ref z85_47 (3 : Int)) fun y86_48 =>
       bindv (bits .and .i64 s3.1 1 : Int) fun z92_51 =>
       bindv (IntKind.wrap .i64 (y86_48.c.c + z92_51) : Int) fun z93_52 =>
       bindv (IntKind.wrap .i64 (Int.tdiv s3.1 32) : Int) fun z98_53 =>
       bindv (Int.tmod z98_53 3 : Int) fun z99_54 =>
       bindv (IntKind.wrap .i64 (y86_48.c.r + z99_54) : Int) fun z100_55 =>
       obind (tree_Span y86_48 (⟨(⟨y86_48.c.s, z93_52, z100_55⟩ : C), y86_48.ac, y86_48.ar⟩ : Rf)) fun y107_56 =>
       some (y107_56, s3.2)
      ) else (
       bindv (decide (s7 = 6) : Bool) fun z110_58 =>
       if z110_58 = true then (
        bindv (IntKind.wrap .i64 (x1 - 1) : Int) fun z113_60 =>
        obind (rec s3.2 z113_60) fun y114_61 =>
        obind (tree_Unary (5 : Int) y114_61.1) fun y115_63 =>
        some (y115_63, y114_61.2)
       ) else (
        bindv (decide (s7 = 7) : Bool) fun z118_65 =>
        if z118_65 = true then (
         bindv (IntKind.wrap .i64 (x1 - 1) : Int) fun z121_67 =>
         obind (rec s3.2 z121_67) fun y122_68 =>
         obind (tree_Unary (6 : Int) y122_68.1) fun y123_70 =>
         some (y123_70, y122_68.2)
        ) else (
         bindv (decide (s7 < 12) : Bool) fun z126_72 =>
         if z126_72 = true then (
          bindv (IntKind.wrap .i64 (x1 - 1) : Int) fun z129_74 =>
          obind (rec s3.2 z129_74) fun y130_75 =>
          bindv (Int.tmod s3.1 11 : Int) fun z132_78 =>
          bindv (IntKind.wrap .i64 (z132_78 + 1) : Int) fun z133_79 =>
          bindv (IntKind.wrap .i64 (x1 - 1) : Int) fun z137_80 =>
          obind (rec y130_75.2 z137_80) fun y138_81 =>
          obind (tree_Binary z133_79 y130_75.1 y138_81.1) fun y139_83 =>
          some (y139_83, y138_81.2)
         ) else (
          bindv (IntKind.wrap .i64 (Int.tdiv s3.1 4) : Int) fun z141_85 =>
          bindv (Int.tmod z141_85 54 : Int) fun z142_86 =>
          bindv (IntKind.wrap .i64 (z142_86 + 1) : Int) fun z143_87 =>
          bindv ((fun s89 =>
           bindv ((fun s91 =>
            obind (tree_Apply s89 s91.2) fun y176_95 =>
            some (y176_95, s91.1)
            ) : ((List (Int)) × (List (Nd))) → Option ((Nd) × (List Int))) fun J91 =>
           bindv (fun (n97 : ((List (Int)) × (List (Nd))) → Option ((Nd) × (List Int))) (s97 : (List (Int)) × (List (Nd))) =>
            bindv (decide ((s97.2.length : Int) < 9) : Bool) fun z159_102 =>
            obind (if z159_102 = true then tree_Fits s89 (s97.2.length : Int) else some default) fun y164_103 =>
            bindv (!y164_103 : Bool) fun z165_104 =>
            bindv (z159_102 && z165_104 : Bool) fun z166_105 =>
            if z166_105 = true then (
             bindv (IntKind.wrap .i64 (x1 - 1) : Int) fun z170_108 =>
             obind (rec s97.1 z170_108) fun y171_109 =>
             chk (s97.2.length + [y171_109.1].length ≤ 9223372036854775807 ∧ (s97.2.length + [y171_109.1].length) * 152 ≤ 140737488355328) <|
             bindv (s97.2 ++ [y171_109.1] : List (Nd)) fun z173_114 =>
             n97 (y171_109.2, z173_114)
            ) else (
             J91 (s97.1, s97.2)
            )
            ) fun B97 =>
           loopF B97 KK (s3.2, ([] : List (Nd)))
           ) : (Int) → Option ((Nd) × (List Int))) fun J89 =>
          bindv (decide (0 < (s3.2.length : Int)) : Bool) fun z148_115 =>
          if z148_115 = true then (
           chk ((0 : Int) ≤ 0 ∧ 0 < (s3.2.length : Int)) <|
           bindv (gel s3.2 0 : Int) fun z152_118 =>
           bindv (IntKind.wrap .i64 z152_118 : Int) fun z154_119 =>
           bindv (Int.tmod z154_119 54 : Int) fun z155_120 =>
           bindv (IntKind.wrap .i64 (z155_120 + 1) : Int) fun z156_121 =>
           J89 z156_121
          ) else (
           J89 z143_87
          )
         )
        )
       )
      )
     )
    )
   )
   ) : (Int) → Option ((Nd) × (List Int))) fun J7 =>
  bindv (decide (x1 ≤ 0) : Bool) fun z32_122 =>
  bindv (decide ((s3.2.length : Int) = 0) : Bool) fun z38_123 =>
  bindv (z32_122 || z38_123 : Bool) fun z39_124 =>
  if z39_124 = true then (
   bindv (Int.tmod s3.1 6 : Int) fun z41_126 =>
   J7 z41_126
  ) else (
   J7 z30_5
  )
  ) : (Int × (List (Int))) → Option ((Nd) × (List Int))) fun J3 =>
 bindv (decide (0 < (x0.length : Int)) : Bool) fun z16_127 =>
 if z16_127 = true then (
  chk ((0 : Int) ≤ 0 ∧ 0 < (x0.length : Int)) <|
  bindv (gel x0 0 : Int) fun z20_130 =>
  bindv (IntKind.wrap .i64 z20_130 : Int) fun z22_131 =>
  chk ((0 : Int) ≤ (1 : Int) ∧ (1 : Int) ≤ (x0.length : Int) ∧ (x0.length : Int) ≤ (x0.length : Int)) <|
  bindv (cutL x0 (1 : Int) (x0.length : Int) : List (Int)) fun z27_133 =>
  J3 (z22_131, z27_133)
 ) else (
  J3 (0, x0)
 )
def reckonerlaw05_Seed_Formula : Nat → (List Int) → Int → Option ((Nd) × (List Int))
 | 0, _, _ => none
 | k + 1, x0, x1 => reckonerlaw05_Seed_Formula_B (reckonerlaw05_Seed_Formula k) x0 x1
end Go.Sp
end
section
namespace Go.Sp
open Go.Stp Go.ValP
def reckonerlaw15_PolyMeans_1 (x0 : C) (x1 : List V) : Option (Int) :=
 obind (reckonerref13_Place_At x1 x0) fun y6_2 =>
 bindv (IntKind.wrap .i64 (Int.tdiv y6_2.n 1000000) : Int) fun z8_3 =>
 some z8_3
def reckonerlaw15_PolyMeans (x0 : List (Int)) (x1 : List (Int)) : Option (Bool) :=
 obind (reckonerlaw15_fit) fun y14_3 =>
 bindv (!y14_3 : Bool) fun z15_4 =>
 if z15_4 = true then (
  some false
 ) else (
  bindv (decide (60 < (x0.length : Int)) : Bool) fun z18_7 =>
  bindv (decide (150 < (x1.length : Int)) : Bool) fun z22_8 =>
  bindv (z18_7 || z22_8 : Bool) fun z23_9 =>
  if z23_9 = true then (
   some true
  ) else (
   obind (reckonerlaw05_Seed_Formula KK x0 (4 : Int)) fun y24_11 =>
   bindv ((fun s17 =>
    obind (poly_Of KK y24_11.1 s17) fun y59_19 =>
    bindv (!y59_19.2 : Bool) fun z63_22 =>
    if z63_22 = true then (
     some true
    ) else (
     obind (poly_Num y59_19.1 (fun c25 => reckonerlaw15_PolyMeans_1 c25 s17)) fun y67_26 =>
     obind (eval_Eval y24_11.1 (⟨0, 0, 0⟩ : C) s17) fun y74_27 =>
     obind (tree_Right y24_11.1) fun y77_30 =>
     bindv (!y67_26.2 : Bool) fun z80_31 =>
     bindv (decide (y74_27.v.k = 0) : Bool) fun z84_32 =>
     bindv (decide (y67_26.1 = 0) : Bool) fun z87_33 =>
     bindv (z84_32 && z87_33 : Bool) fun z88_34 =>
     bindv (z80_31 || z88_34 : Bool) fun z89_35 =>
     obind (if (y77_30 && !z89_35) = true then value_Num y67_26.1 else some default) fun y93_36 =>
     bindv ((decide (y74_27.v.k = y93_36.k) && (decide (y74_27.v.n = y93_36.n) && decide (y74_27.v.s = y93_36.s))) : Bool) fun z94_37 =>
     bindv (z89_35 || z94_37 : Bool) fun z95_38 =>
     obind (if (y77_30 && !z95_38) = true then value_Fail (5 : Int) else some default) fun y98_39 =>
     bindv ((decide (y74_27.v.k = y98_39.k) && (decide (y74_27.v.n = y98_39.n) && decide (y74_27.v.s = y98_39.s))) : Bool) fun z99_40 =>
     bindv (z95_38 || z99_40 : Bool) fun z100_41 =>
     bindv (y77_30 && z100_41 : Bool) fun z101_42 =>
     some z101_42
    )
    ) : ((List V)) → Option (Bool)) fun J17 =>
   bindv (fun (n44 : (Int × (List V)) → Option (Bool)) (s44 : Int × (List V)) =>
    bindv (decide (s44.1 < (x1.length : Int)) : Bool) fun z30_46 =>
    if z30_46 = true then (
     chk ((0 : Int) ≤ s44.1 ∧ s44.1 < (x1.length : Int)) <|
     bindv (gel x1 s44.1 : Int) fun z32_51 =>
     bindv (decide (s44.1 < 128) : Bool) fun z35_52 =>
     bindv (bits .and .u8 z32_51 3 : Int) fun z38_53 =>
     bindv (decide (0 < z38_53) : Bool) fun z39_54 =>
     bindv (z35_52 && z39_54 : Bool) fun z40_55 =>
     if z40_55 = true then (
      bindv (bits .and .i64 s44.1 1 : Int) fun z43_57 =>
      bindv (IntKind.wrap .i64 (Int.tdiv s44.1 2) : Int) fun z45_58 =>
      bindv (IntKind.wrap .i64 z32_51 : Int) fun z47_59 =>
      bindv (IntKind.wrap .i64 (z47_59 * 1000000) : Int) fun z48_60 =>
      obind (value_Num z48_60) fun y49_61 =>
      chk ((0 : Int) ≤ z43_57 ∧ z43_57 < (2 : Int)) <|
      chk ((0 : Int) ≤ z45_58 ∧ z45_58 < (64 : Int)) <|
      bindv (s44.2.set (Int.toNat (64 * z43_57 + z45_58)) y49_61 : List V) fun zp2_64 =>
      bindv (IntKind.wrap .i64 (s44.1 + 1) : Int) fun z54_65 =>
      n44 (z54_65, zp2_64)
     ) else (
      bindv (IntKind.wrap .i64 (s44.1 + 1) : Int) fun z54_66 =>
      n44 (z54_66, s44.2)
     )
    ) else (
     J17 s44.2
    )
    ) fun B44 =>
   loopF B44 KK (0, zeroPl)
  )
 )
end Go.Sp
end
