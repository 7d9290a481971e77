/- What functions of the program compute, as partial functions: printed off the program's form (no proof here). -/
import Derived.Test.YtcecjdnkcbfhlaaGreatDoorSpA
set_option linter.unusedSimpArgs false
set_option linter.unusedVariables false
set_option linter.unusedSectionVars false
namespace Go.Sp
open Go.Stp Go.ValP
def text0 : List UInt8 := [35, 68, 73, 86, 47, 48, 33, 32, 35, 86, 65, 76, 85, 69, 33, 32, 35, 82, 69, 70, 33, 32, 35, 78, 65, 77, 69, 63, 32, 35, 78, 85, 77, 33, 32, 35, 78, 47, 65, 32, 35, 67, 89, 67, 76, 69, 33]
def value_ErrorName (x0 : Int) : Option ((List UInt8)) :=
 chk (text0.length < 4294967281 ∧ (text0.all fun b => decide (b.toNat < 128)) = true) <|
 bindv (Lib.fields text0 : (List (List UInt8))) fun z4_3 =>
 bindv (decide (x0 < 1) : Bool) fun z6_6 =>
 bindv (decide ((z4_3.length : Int) < x0) : Bool) fun z11_7 =>
 bindv (z6_6 || z11_7 : Bool) fun z12_8 =>
 if z12_8 = true then (
  some []
 ) else (
  bindv (IntKind.wrap .i64 (x0 - 1) : Int) fun z15_10 =>
  chk ((0 : Int) ≤ z15_10 ∧ z15_10 < (z4_3.length : Int)) <|
  bindv (gel z4_3 z15_10 : List UInt8) fun z16_12 =>
  some z16_12
 )

def num_Parse (x0 : List UInt8) : Option (Int × Bool) :=
 bindv ((fun s2 =>
  bindv ((fun s4 =>
   bindv (decide (s2.2.2 = 0) : Bool) fun z78_6 =>
   bindv (decide (s2.2.1 = 0) : Bool) fun z81_7 =>
   bindv (z78_6 || z81_7 : Bool) fun z82_8 =>
   if z82_8 = true then (
    some (0, false)
   ) else (
    obind (num_signed s4 false) fun y84_10 =>
    some (y84_10.1, y84_10.2)
   )
   ) : (Int) → Option (Int × Bool)) fun J4 =>
  bindv (max s2.2.1 0 : Int) fun z64_11 =>
  bindv (fun (n13 : (Int × Int) → Option (Int × Bool)) (s13 : Int × Int) =>
   bindv (decide (s13.2 < 6) : Bool) fun z66_16 =>
   if z66_16 = true then (
    chk ((0 ≤ s13.1 ∧ s13.1 ≤ 18446744073709551615) ∧ 0 ≤ (10 : Int) ∧ (10 : Int) ≤ 18446744073709551615) <|
    bindv ((s13.1 * (10 : Int) / 18446744073709551616, s13.1 * (10 : Int) % 18446744073709551616) : Int × Int) fun z71_21 =>
    bindv (decide (0 < z71_21.1) : Bool) fun z75_23 =>
    if z75_23 = true then (
     some (0, false)
    ) else (
     bindv (IntKind.wrap .i64 (s13.2 + 1) : Int) fun z68_25 =>
     n13 (z71_21.2, z68_25)
    )
   ) else (
    J4 s13.1
   )
   ) fun B13 =>
  loopF B13 KK (s2.1, z64_11)
  ) : (Int × Int × Int) → Option (Int × Bool)) fun J2 =>
 bindv (fun (n28 : (Int × Int × Int × Nat) → Option (Int × Bool)) (s28 : Int × Int × Int × Nat) =>
  bindv (decide (s28.2.2.2 < x0.length) : Bool) fun z18_30 =>
  if z18_30 = true then (
   bindv ((fun s35 =>
    chk ((0 ≤ s28.1 ∧ s28.1 ≤ 18446744073709551615) ∧ 0 ≤ (10 : Int) ∧ (10 : Int) ≤ 18446744073709551615) <|
    bindv ((s28.1 * (10 : Int) / 18446744073709551616, s28.1 * (10 : Int) % 18446744073709551616) : Int × Int) fun z45_38 =>
    bindv (IntKind.wrap .i32 ((rn x0 s28.2.2.2) - 48) : Int) fun z51_39 =>
    bindv (IntKind.wrap .u64 z51_39 : Int) fun z52_40 =>
    chk (0 ≤ z45_38.2 ∧ 0 ≤ z52_40 ∧ 0 ≤ (0 : Int) ∧ (0 : Int) ≤ 1) <|
    bindv (((z45_38.2 + z52_40 + (0 : Int)) % 18446744073709551616, (z45_38.2 + z52_40 + (0 : Int)) / 18446744073709551616) : Int × Int) fun z53_43 =>
    bindv (IntKind.wrap .u64 (z45_38.1 + z53_43.2) : Int) fun z58_45 =>
    bindv (decide (0 < z58_45) : Bool) fun z59_46 =>
    if z59_46 = true then (
     some (0, false)
    ) else (
     bindv (IntKind.wrap .i64 (s28.2.2.1 + 1) : Int) fun z62_48 =>
     n28 (z53_43.1, s35, z62_48, nextP x0 s28.2.2.2)
    )
    ) : (Int) → Option (Int × Bool)) fun J35 =>
   bindv (decide ((rn x0 s28.2.2.2) = 46) : Bool) fun z22_49 =>
   bindv (decide (s28.2.1 < 0) : Bool) fun z25_50 =>
   bindv (z22_49 && z25_50 : Bool) fun z26_51 =>
   if z26_51 = true then (
    n28 (s28.1, 0, s28.2.2.1, nextP x0 s28.2.2.2)
   ) else (
    bindv (decide ((rn x0 s28.2.2.2) < 48) : Bool) fun z29_53 =>
    bindv (decide (57 < (rn x0 s28.2.2.2)) : Bool) fun z32_54 =>
    bindv (z29_53 || z32_54 : Bool) fun z33_55 =>
    bindv (decide (s28.2.1 = 6) : Bool) fun z36_56 =>
    bindv (z33_55 || z36_56 : Bool) fun z37_57 =>
    if z37_57 = true then (
     some (0, false)
    ) else (
     bindv (decide (0 ≤ s28.2.1) : Bool) fun z40_59 =>
     if z40_59 = true then (
      bindv (IntKind.wrap .i64 (s28.2.1 + 1) : Int) fun z42_61 =>
      J35 z42_61
     ) else (
      J35 s28.2.1
     )
    )
   )
  ) else (
   J2 (s28.1, s28.2.1, s28.2.2.1)
  )
  ) fun B28 =>
 loopF B28 KK (0, (-1), 0, 0)

def value_ToNum (x0 : V) : Option (V) :=
 bindv ((fun s6 =>
  if s6 = true then (
   some x0
  ) else (
   bindv (decide (x0.k = 0) : Bool) fun z14_8 =>
   if z14_8 = true then (
    obind (value_Num (0 : Int)) fun y15_10 =>
    some y15_10
   ) else (
    bindv (decide (x0.k = 3) : Bool) fun z17_11 =>
    if z17_11 = true then (
     bindv (IntKind.wrap .i64 (x0.n * 1000000) : Int) fun z20_13 =>
     obind (value_Num z20_13) fun y21_14 =>
     some y21_14
    ) else (
     bindv ((Lib.trimPrefix x0.s ([45] : List UInt8), Lib.hasPrefix x0.s ([45] : List UInt8)) : (List UInt8) × Bool) fun z25_16 =>
     obind (num_Parse z25_16.1) fun y30_17 =>
     bindv (!y30_17.2 : Bool) fun z34_19 =>
     if z34_19 = true then (
      obind (value_Fail (2 : Int)) fun y35_21 =>
      some y35_21
     ) else (
      bindv ((fun s23 =>
       obind (value_Num s23) fun y40_24 =>
       some y40_24
       ) : (Int) → Option (V)) fun J23 =>
      if z25_16.2 = true then (
       bindv (IntKind.wrap .i64 (-y30_17.1) : Int) fun z38_26 =>
       J23 z38_26
      ) else (
       J23 y30_17.1
      )
     )
    )
   )
  )
  ) : (Bool) → Option (V)) fun J6 =>
 bindv (decide (x0.k = 1) : Bool) fun z10_27 =>
 if z10_27 = true then (
  J6 z10_27
 ) else (
  bindv (decide (x0.k = 4) : Bool) fun z11_29 =>
  J6 z11_29
 )

def value_ToBool (x0 : V) : Option (V) :=
 bindv ((fun s6 =>
  if s6 = true then (
   some x0
  ) else (
   bindv (decide (x0.k = 0) : Bool) fun z10_8 =>
   if z10_8 = true then (
    obind (value_Bool false) fun y11_10 =>
    some y11_10
   ) else (
    bindv (decide (x0.k = 1) : Bool) fun z13_11 =>
    if z13_11 = true then (
     bindv (!decide (x0.n = 0) : Bool) fun z16_13 =>
     obind (value_Bool z16_13) fun y17_14 =>
     some y17_14
    ) else (
     bindv (decide (x0.s = ([84, 82, 85, 69] : List UInt8)) : Bool) fun z20_16 =>
     bindv (decide (x0.s = ([70, 65, 76, 83, 69] : List UInt8)) : Bool) fun z24_17 =>
     bindv (z20_16 || z24_17 : Bool) fun z25_18 =>
     if z25_18 = true then (
      bindv (decide (x0.s = ([84, 82, 85, 69] : List UInt8)) : Bool) fun z28_20 =>
      obind (value_Bool z28_20) fun y29_21 =>
      some y29_21
     ) else (
      obind (value_Fail (2 : Int)) fun y30_22 =>
      some y30_22
     )
    )
   )
  )
  ) : (Bool) → Option (V)) fun J6 =>
 bindv (decide (x0.k = 3) : Bool) fun z6_23 =>
 if z6_23 = true then (
  J6 z6_23
 ) else (
  bindv (decide (x0.k = 4) : Bool) fun z7_25 =>
  J6 z7_25
 )
end Go.Sp
