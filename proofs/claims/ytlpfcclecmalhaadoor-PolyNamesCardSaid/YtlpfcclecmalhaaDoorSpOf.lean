/- What functions of the program compute, as partial functions: printed off the program's form (no proof here). -/
import Derived.Test.YtlpfcclecmalhaaDoorSpCl
set_option linter.unusedSimpArgs false
set_option linter.unusedVariables false
set_option linter.unusedSectionVars false
namespace Go.Sp
open Go.Stp Go.ValP
def poly_binary (rec : Nd → (List V) → Option ((List (T)) × Bool)) (x0 : Nd) (x1 : List V) : Option ((List (T)) × Bool) :=
 chk ((0 : Int) ≤ 0 ∧ 0 < (x0.l.length : Int)) <|
 bindv (gel x0.l 0 : Nd) fun z13_3 =>
 obind (rec z13_3 x1) fun y16_5 =>
 chk ((0 : Int) ≤ 1 ∧ 1 < (x0.l.length : Int)) <|
 bindv (gel x0.l 1 : Nd) fun z22_8 =>
 obind (rec z22_8 x1) fun y25_10 =>
 bindv (!y16_5.2 : Bool) fun z30_13 =>
 bindv (!y25_10.2 : Bool) fun z33_14 =>
 bindv (z30_13 || z33_14 : Bool) fun z34_15 =>
 if z34_15 = true then (
  some ([], false)
 ) else (
  bindv (decide (x0.op = 1) : Bool) fun z38_17 =>
  if z38_17 = true then (
   obind (poly_Add [y16_5.1, y25_10.1]) fun y42_20 =>
   some (y42_20.1, y42_20.2)
  ) else (
   bindv (decide (x0.op = 3) : Bool) fun z48_22 =>
   if z48_22 = true then (
    obind (poly_Mul y16_5.1 y25_10.1) fun y51_24 =>
    some (y51_24.1, y51_24.2)
   ) else (
    some ([], false)
   )
  )
 )

def poly_call (rec : Nd → (List V) → Option ((List (T)) × Bool)) (x0 : Nd) (x1 : List V) : Option ((List (T)) × Bool) :=
 bindv ((fun s6 =>
  obind (poly_Add s6.2.2) fun y160_11 =>
  some (y160_11.1, y160_11.2)
  ) : ((List (T)) × Bool × (List (List (T)))) → Option ((List (T)) × Bool)) fun J6 =>
 obind (tree_Name x0.op) fun y27_13 =>
 bindv (decide (y27_13 = ([83, 85, 77] : List UInt8)) : Bool) fun z29_15 =>
 if z29_15 = true then (
  bindv (fun (n18 : (Int × (List (T)) × Bool × (List (List (T)))) → Option ((List (T)) × Bool)) (s18 : Int × (List (T)) × Bool × (List (List (T)))) =>
   bindv (decide (s18.1 < (x0.l.length : Int)) : Bool) fun z34_23 =>
   if z34_23 = true then (
    chk ((0 : Int) ≤ s18.1 ∧ s18.1 < (x0.l.length : Int)) <|
    bindv (gel x0.l s18.1 : Nd) fun z35_28 =>
    obind (eval_Area x1 z35_28) fun y40_31 =>
    bindv (!y40_31.2.2 : Bool) fun z45_35 =>
    if z45_35 = true then (
     obind (rec z35_28 x1) fun y49_37 =>
     bindv (!y49_37.2 : Bool) fun z53_40 =>
     if z53_40 = true then (
      some ([], false)
     ) else (
      chk (s18.2.2.2.length + [y49_37.1].length ≤ 9223372036854775807 ∧ (s18.2.2.2.length + [y49_37.1].length) * 24 ≤ 140737488355328) <|
      bindv (s18.2.2.2 ++ [y49_37.1] : List (List (T))) fun z57_45 =>
      bindv (IntKind.wrap .i64 (s18.1 + 1) : Int) fun z67_46 =>
      n18 (z67_46, s18.2.1, s18.2.2.1, z57_45)
     )
    ) else (
     obind (addr_Cells y40_31.1 y40_31.2.1) fun y60_47 =>
     bindv (fun (s49 : (List (List (T)))) (x : C) =>
      obind (poly_Var x) fun y64_52 =>
      chk (s49.length + [y64_52].length ≤ 9223372036854775807 ∧ (s49.length + [y64_52].length) * 24 ≤ 140737488355328) <|
      bindv (s49 ++ [y64_52] : List (List (T))) fun z66_57 =>
      some z66_57
      ) fun B49 =>
     obind (foldO B49 s18.2.2.2 y60_47) fun f49 =>
     bindv (IntKind.wrap .i64 (s18.1 + 1) : Int) fun z67_59 =>
     n18 (z67_59, s18.2.1, s18.2.2.1, f49)
    )
   ) else (
    J6 (s18.2.1, s18.2.2.1, s18.2.2.2)
   )
   ) fun B18 =>
  loopF B18 KK (0, [], false, ([] : List (List (T))))
 ) else (
  bindv (decide (y27_13 = ([83, 85, 77, 80, 82, 79, 68, 85, 67, 84] : List UInt8)) : Bool) fun z69_60 =>
  if z69_60 = true then (
   chk ((0 : Int) ≤ 0 ∧ 0 < (x0.l.length : Int)) <|
   bindv (gel x0.l 0 : Nd) fun z74_63 =>
   obind (eval_Area x1 z74_63) fun y76_65 =>
   chk ((0 : Int) ≤ 1 ∧ 1 < (x0.l.length : Int)) <|
   bindv (gel x0.l 1 : Nd) fun z84_69 =>
   obind (eval_Area x1 z84_69) fun y86_71 =>
   bindv (!y76_65.2.2 : Bool) fun z91_75 =>
   bindv (!y86_71.2.2 : Bool) fun z94_76 =>
   bindv (z91_75 || z94_76 : Bool) fun z95_77 =>
   bindv (IntKind.wrap .i64 (y76_65.2.1.c - y76_65.1.c) : Int) fun z101_78 =>
   bindv (IntKind.wrap .i64 (y86_71.2.1.c - y86_71.1.c) : Int) fun z106_79 =>
   bindv (!decide (z101_78 = z106_79) : Bool) fun z107_80 =>
   bindv (z95_77 || z107_80 : Bool) fun z108_81 =>
   bindv (IntKind.wrap .i64 (y76_65.2.1.r - y76_65.1.r) : Int) fun z114_82 =>
   bindv (IntKind.wrap .i64 (y86_71.2.1.r - y86_71.1.r) : Int) fun z119_83 =>
   bindv (!decide (z114_82 = z119_83) : Bool) fun z120_84 =>
   bindv (z108_81 || z120_84 : Bool) fun z121_85 =>
   if z121_85 = true then (
    some ([], false)
   ) else (
    none
   )
  ) else (
   some ([], false)
  )
 )

def poly_Of_B (rec : Nd → (List V) → Option ((List (T)) × Bool)) (x0 : Nd) (x1 : List V) : Option ((List (T)) × Bool) :=
 bindv (decide (x0.k = 1) : Bool) fun z14_4 =>
 if z14_4 = true then (
  obind (num_Whole x0.v.n) fun y19_6 =>
  bindv (!decide (x0.v.k = 1) : Bool) fun z25_8 =>
  bindv (!y19_6.2 : Bool) fun z28_9 =>
  bindv (z25_8 || z28_9 : Bool) fun z29_10 =>
  if z29_10 = true then (
   some ([], false)
  ) else (
   obind (poly_Const y19_6.1) fun y31_12 =>
   some (y31_12.1, y31_12.2)
  )
 ) else (
  bindv ((fun s15 =>
   if s15 = true then (
    obind (eval_Area x1 x0) fun y41_17 =>
    bindv (!y41_17.2.2 : Bool) fun z46_21 =>
    bindv (!((decide (y41_17.1.s = y41_17.2.1.s) && (decide (y41_17.1.c = y41_17.2.1.c) && decide (y41_17.1.r = y41_17.2.1.r)))) : Bool) fun z50_22 =>
    bindv (z46_21 || z50_22 : Bool) fun z51_23 =>
    if z51_23 = true then (
     some ([], false)
    ) else (
     obind (poly_Var y41_17.1) fun y53_25 =>
     some (y53_25, true)
    )
   ) else (
    bindv (decide (x0.k = 7) : Bool) fun z55_28 =>
    if z55_28 = true then (
     obind (poly_binary rec x0 x1) fun y58_30 =>
     some (y58_30.1, y58_30.2)
    ) else (
     bindv (decide (x0.k = 8) : Bool) fun z62_32 =>
     if z62_32 = true then (
      obind (poly_call rec x0 x1) fun y65_34 =>
      some (y65_34.1, y65_34.2)
     ) else (
      some ([], false)
     )
    )
   )
   ) : (Bool) → Option ((List (T)) × Bool)) fun J15 =>
  bindv (decide (x0.k = 2) : Bool) fun z35_36 =>
  if z35_36 = true then (
   J15 z35_36
  ) else (
   bindv (decide (x0.k = 3) : Bool) fun z36_38 =>
   if z36_38 = true then (
    J15 z36_38
   ) else (
    bindv (decide (x0.k = 4) : Bool) fun z37_40 =>
    J15 z37_40
   )
  )
 )
def poly_Of : Nat → Nd → (List V) → Option ((List (T)) × Bool)
 | 0, _, _ => none
 | k + 1, x0, x1 => poly_Of_B (poly_Of k) x0 x1
end Go.Sp
