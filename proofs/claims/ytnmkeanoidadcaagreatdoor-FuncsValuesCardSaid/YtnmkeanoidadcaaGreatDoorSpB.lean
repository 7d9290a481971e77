/- What functions of the program compute, as partial functions: printed off the program's form (no proof here). -/
import Derived.Test.YtnmkeanoidadcaaGreatDoorSpA
set_option linter.unusedSimpArgs false
set_option linter.unusedVariables false
set_option linter.unusedSectionVars false
namespace Go.Sp
open Go.Stp Go.ValP
def text0 : List UInt8 := [35, 68, 73, 86, 47, 48, 33, 32, 35, 86, 65, 76, 85, 69, 33, 32, 35, 82, 69, 70, 33, 32, 35, 78, 65, 77, 69, 63, 32, 35, 78, 85, 77, 33, 32, 35, 78, 47, 65, 32, 35, 67, 89, 67, 76, 69, 33]
def text1 : List UInt8 := [73, 70, 50, 51, 32, 73, 70, 69, 82, 82, 79, 82, 50, 50, 32, 65, 78, 68, 49, 57, 32, 79, 82, 49, 57, 32, 67, 72, 79, 79, 83, 69, 50, 57, 32, 65, 66, 83, 49, 49, 32, 83, 73, 71, 78, 49, 49, 32, 73, 78, 84, 49, 49, 32, 82, 79, 85, 78, 68, 50, 50, 32, 77, 79, 68, 50, 50, 32, 80, 79, 87, 69, 82, 50, 50, 32, 81, 85, 79, 84, 73, 69, 78, 84, 50, 50, 32, 71, 67, 68, 50, 50, 32, 76, 67, 77, 50, 50, 32, 70, 65, 67, 84, 49, 49, 32, 69, 86, 69, 78, 49, 49, 32, 79, 68, 68, 49, 49, 32, 84, 82, 85, 78, 67, 49, 49, 32, 77, 73, 78, 49, 57, 32, 77, 65, 88, 49, 57, 32, 83, 85, 77, 49, 57, 32, 80, 82, 79, 68, 85, 67, 84, 49, 57, 32, 67, 79, 85, 78, 84, 49, 57, 32, 67, 79, 85, 78, 84, 65, 49, 57, 32, 67, 79, 85, 78, 84, 66, 76, 65, 78, 75, 49, 49, 32, 65, 86, 69, 82, 65, 71, 69, 49, 57, 32, 83, 85, 77, 73, 70, 50, 50, 32, 67, 79, 85, 78, 84, 73, 70, 50, 50, 32, 83, 85, 77, 80, 82, 79, 68, 85, 67, 84, 50, 50, 32, 76, 69, 78, 49, 49, 32, 76, 69, 70, 84, 50, 50, 32, 82, 73, 71, 72, 84, 50, 50, 32, 77, 73, 68, 51, 51, 32, 85, 80, 80, 69, 82, 49, 49, 32, 76, 79, 87, 69, 82, 49, 49, 32, 84, 82, 73, 77, 49, 49, 32, 67, 79, 78, 67, 65, 84, 49, 57, 32, 82, 69, 80, 84, 50, 50, 32, 70, 73, 78, 68, 50, 50, 32, 83, 85, 66, 83, 84, 73, 84, 85, 84, 69, 51, 51, 32, 69, 88, 65, 67, 84, 50, 50, 32, 86, 65, 76, 85, 69, 49, 49, 32, 78, 79, 84, 49, 49, 32, 73, 83, 78, 85, 77, 66, 69, 82, 49, 49, 32, 73, 83, 84, 69, 88, 84, 49, 49, 32, 73, 83, 66, 76, 65, 78, 75, 49, 49, 32, 73, 83, 69, 82, 82, 79, 82, 49, 49, 32, 73, 83, 76, 79, 71, 73, 67, 65, 76, 49, 49, 32, 78, 65, 48, 48, 32, 73, 78, 68, 69, 88, 51, 51, 32, 77, 65, 84, 67, 72, 50, 50, 32, 86, 76, 79, 79, 75, 85, 80, 51, 51, 32, 82, 79, 87, 83, 49, 49, 32, 67, 79, 76, 85, 77, 78, 83, 49, 49]
def value_Compare (x0 : V) (x1 : V) : Option (Int) :=
 obind (value_like x0 x1) fun y7_3 =>
 obind (value_like x1 x0) fun y10_4 =>
 bindv (!decide (y7_3.k = y10_4.k) : Bool) fun z15_6 =>
 if z15_6 = true then (
  obind (value_rank y7_3) fun y17_8 =>
  obind (value_rank y10_4) fun y19_9 =>
  bindv (IntKind.wrap .i64 (y17_8 - y19_9) : Int) fun z20_10 =>
  some z20_10
 ) else (
  bindv (decide (y7_3.k = 2) : Bool) fun z24_12 =>
  if z24_12 = true then (
   bindv (Lib.compareBytes y7_3.s y10_4.s : Int) fun z29_15 =>
   some z29_15
  ) else (
   bindv (decide (y7_3.n < y10_4.n) : Bool) fun z35_16 =>
   if z35_16 = true then (
    some (-1)
   ) else (
    bindv (decide (y10_4.n < y7_3.n) : Bool) fun z41_18 =>
    if z41_18 = true then (
     some 1
    ) else (
     some 0
    )
   )
  )
 )

def value_ErrorName (x0 : Int) : Option ((List UInt8)) :=
 chk (text0.length < 4294967281 ∧ (text0.all fun b => decide (b.toNat < 128)) = true) <|
 bindv (Lib.fields text0 : (List (List UInt8))) fun z4_3 =>
 bindv (decide (x0 < 1) : Bool) fun z6_6 =>
 bindv (decide ((z4_3.length : Int) < x0) : Bool) fun z11_7 =>
 bindv (z6_6 || z11_7 : Bool) fun z12_8 =>
 if z12_8 = true then (
  some []
 ) else (
  bindv (IntKind.wrap .i64 (x0 - 1) : Int) fun z15_10 =>
  chk ((0 : Int) ≤ z15_10 ∧ z15_10 < (z4_3.length : Int)) <|
  bindv (gel z4_3 z15_10 : List UInt8) fun z16_12 =>
  some z16_12
 )

def num_Parse (x0 : List UInt8) : Option (Int × Bool) :=
 bindv ((fun s2 =>
  bindv ((fun s4 =>
   bindv (decide (s2.2.2 = 0) : Bool) fun z78_6 =>
   bindv (decide (s2.2.1 = 0) : Bool) fun z81_7 =>
   bindv (z78_6 || z81_7 : Bool) fun z82_8 =>
   if z82_8 = true then (
    some (0, false)
   ) else (
    obind (num_signed s4 false) fun y84_10 =>
    some (y84_10.1, y84_10.2)
   )
   ) : (Int) → Option (Int × Bool)) fun J4 =>
  bindv (max s2.2.1 0 : Int) fun z64_11 =>
  bindv (fun (n13 : (Int × Int) → Option (Int × Bool)) (s13 : Int × Int) =>
   bindv (decide (s13.2 < 6) : Bool) fun z66_16 =>
   if z66_16 = true then (
    chk ((0 ≤ s13.1 ∧ s13.1 ≤ 18446744073709551615) ∧ 0 ≤ (10 : Int) ∧ (10 : Int) ≤ 18446744073709551615) <|
    bindv ((s13.1 * (10 : Int) / 18446744073709551616, s13.1 * (10 : Int) % 18446744073709551616) : Int × Int) fun z71_21 =>
    bindv (decide (0 < z71_21.1) : Bool) fun z75_23 =>
    if z75_23 = true then (
     some (0, false)
    ) else (
     bindv (IntKind.wrap .i64 (s13.2 + 1) : Int) fun z68_25 =>
     n13 (z71_21.2, z68_25)
    )
   ) else (
    J4 s13.1
   )
   ) fun B13 =>
  loopF B13 KK (s2.1, z64_11)
  ) : (Int × Int × Int) → Option (Int × Bool)) fun J2 =>
 bindv (fun (n28 : (Int × Int × Int × Nat) → Option (Int × Bool)) (s28 : Int × Int × Int × Nat) =>
  bindv (decide (s28.2.2.2 < x0.length) : Bool) fun z18_30 =>
  if z18_30 = true then (
   bindv ((fun s35 =>
    chk ((0 ≤ s28.1 ∧ s28.1 ≤ 18446744073709551615) ∧ 0 ≤ (10 : Int) ∧ (10 : Int) ≤ 18446744073709551615) <|
    bindv ((s28.1 * (10 : Int) / 18446744073709551616, s28.1 * (10 : Int) % 18446744073709551616) : Int × Int) fun z45_38 =>
    bindv (IntKind.wrap .i32 ((rn x0 s28.2.2.2) - 48) : Int) fun z51_39 =>
    bindv (IntKind.wrap .u64 z51_39 : Int) fun z52_40 =>
    chk (0 ≤ z45_38.2 ∧ 0 ≤ z52_40 ∧ 0 ≤ (0 : Int) ∧ (0 : Int) ≤ 1) <|
    bindv (((z45_38.2 + z52_40 + (0 : Int)) % 18446744073709551616, (z45_38.2 + z52_40 + (0 : Int)) / 18446744073709551616) : Int × Int) fun z53_43 =>
    bindv (IntKind.wrap .u64 (z45_38.1 + z53_43.2) : Int) fun z58_45 =>
    bindv (decide (0 < z58_45) : Bool) fun z59_46 =>
    if z59_46 = true then (
     some (0, false)
    ) else (
     bindv (IntKind.wrap .i64 (s28.2.2.1 + 1) : Int) fun z62_48 =>
     n28 (z53_43.1, s35, z62_48, nextP x0 s28.2.2.2)
    )
    ) : (Int) → Option (Int × Bool)) fun J35 =>
   bindv (decide ((rn x0 s28.2.2.2) = 46) : Bool) fun z22_49 =>
   bindv (decide (s28.2.1 < 0) : Bool) fun z25_50 =>
   bindv (z22_49 && z25_50 : Bool) fun z26_51 =>
   if z26_51 = true then (
    n28 (s28.1, 0, s28.2.2.1, nextP x0 s28.2.2.2)
   ) else (
    bindv (decide ((rn x0 s28.2.2.2) < 48) : Bool) fun z29_53 =>
    bindv (decide (57 < (rn x0 s28.2.2.2)) : Bool) fun z32_54 =>
    bindv (z29_53 || z32_54 : Bool) fun z33_55 =>
    bindv (decide (s28.2.1 = 6) : Bool) fun z36_56 =>
    bindv (z33_55 || z36_56 : Bool) fun z37_57 =>
    if z37_57 = true then (
     some (0, false)
    ) else (
     bindv (decide (0 ≤ s28.2.1) : Bool) fun z40_59 =>
     if z40_59 = true then (
      bindv (IntKind.wrap .i64 (s28.2.1 + 1) : Int) fun z42_61 =>
      J35 z42_61
     ) else (
      J35 s28.2.1
     )
    )
   )
  ) else (
   J2 (s28.1, s28.2.1, s28.2.2.1)
  )
  ) fun B28 =>
 loopF B28 KK (0, (-1), 0, 0)

def value_ToNum (x0 : V) : Option (V) :=
 bindv ((fun s6 =>
  if s6 = true then (
   some x0
  ) else (
   bindv (decide (x0.k = 0) : Bool) fun z14_8 =>
   if z14_8 = true then (
    obind (value_Num (0 : Int)) fun y15_10 =>
    some y15_10
   ) else (
    bindv (decide (x0.k = 3) : Bool) fun z17_11 =>
    if z17_11 = true then (
     bindv (IntKind.wrap .i64 (x0.n * 1000000) : Int) fun z20_13 =>
     obind (value_Num z20_13) fun y21_14 =>
     some y21_14
    ) else (
     bindv ((Lib.trimPrefix x0.s ([45] : List UInt8), Lib.hasPrefix x0.s ([45] : List UInt8)) : (List UInt8) × Bool) fun z25_16 =>
     obind (num_Parse z25_16.1) fun y30_17 =>
     bindv (!y30_17.2 : Bool) fun z34_19 =>
     if z34_19 = true then (
      obind (value_Fail (2 : Int)) fun y35_21 =>
      some y35_21
     ) else (
      bindv ((fun s23 =>
       obind (value_Num s23) fun y40_24 =>
       some y40_24
       ) : (Int) → Option (V)) fun J23 =>
      if z25_16.2 = true then (
       bindv (IntKind.wrap .i64 (-y30_17.1) : Int) fun z38_26 =>
       J23 z38_26
      ) else (
       J23 y30_17.1
      )
     )
    )
   )
  )
  ) : (Bool) → Option (V)) fun J6 =>
 bindv (decide (x0.k = 1) : Bool) fun z10_27 =>
 if z10_27 = true then (
  J6 z10_27
 ) else (
  bindv (decide (x0.k = 4) : Bool) fun z11_29 =>
  J6 z11_29
 )

def value_ToBool (x0 : V) : Option (V) :=
 bindv ((fun s6 =>
  if s6 = true then (
   some x0
  ) else (
   bindv (decide (x0.k = 0) : Bool) fun z10_8 =>
   if z10_8 = true then (
    obind (value_Bool false) fun y11_10 =>
    some y11_10
   ) else (
    bindv (decide (x0.k = 1) : Bool) fun z13_11 =>
    if z13_11 = true then (
     bindv (!decide (x0.n = 0) : Bool) fun z16_13 =>
     obind (value_Bool z16_13) fun y17_14 =>
     some y17_14
    ) else (
     bindv (decide (x0.s = ([84, 82, 85, 69] : List UInt8)) : Bool) fun z20_16 =>
     bindv (decide (x0.s = ([70, 65, 76, 83, 69] : List UInt8)) : Bool) fun z24_17 =>
     bindv (z20_16 || z24_17 : Bool) fun z25_18 =>
     if z25_18 = true then (
      bindv (decide (x0.s = ([84, 82, 85, 69] : List UInt8)) : Bool) fun z28_20 =>
      obind (value_Bool z28_20) fun y29_21 =>
      some y29_21
     ) else (
      obind (value_Fail (2 : Int)) fun y30_22 =>
      some y30_22
     )
    )
   )
  )
  ) : (Bool) → Option (V)) fun J6 =>
 bindv (decide (x0.k = 3) : Bool) fun z6_23 =>
 if z6_23 = true then (
  J6 z6_23
 ) else (
  bindv (decide (x0.k = 4) : Bool) fun z7_25 =>
  J6 z7_25
 )

def tree_Number (x0 : List UInt8) : Option (Int) :=
 bindv ((fun s2 =>
  some 0
  ) : (Unit) → Option (Int)) fun J2 =>
 chk (text1.length < 4294967281 ∧ (text1.all fun b => decide (b.toNat < 128)) = true) <|
 bindv (Lib.fields text1 : (List (List UInt8))) fun z5_5 =>
 bindv (fun (n8 : (Int) → Option (Int)) (s8 : Int) =>
  bindv (decide (s8 < (z5_5.length : Int)) : Bool) fun z8_10 =>
  if z8_10 = true then (
   chk ((0 : Int) ≤ s8 ∧ s8 < (z5_5.length : Int)) <|
   bindv (gel z5_5 s8 : List UInt8) fun z10_15 =>
   bindv (IntKind.wrap .i64 ((z10_15.length : Int) - 2) : Int) fun z15_16 =>
   chk ((0 : Int) ≤ z15_16 ∧ z15_16 ≤ (z10_15.length : Int)) <|
   bindv (cutS z10_15 0 z15_16 : List UInt8) fun z16_18 =>
   bindv (decide (z16_18 = x0) : Bool) fun z18_19 =>
   if z18_19 = true then (
    bindv (IntKind.wrap .i64 (s8 + 1) : Int) fun z20_21 =>
    some z20_21
   ) else (
    bindv (IntKind.wrap .i64 (s8 + 1) : Int) fun z21_22 =>
    n8 z21_22
   )
  ) else (
   J2 ()
  )
  ) fun B8 =>
 loopF B8 KK 0

def tree_Name (x0 : Int) : Option ((List UInt8)) :=
 chk (text1.length < 4294967281 ∧ (text1.all fun b => decide (b.toNat < 128)) = true) <|
 bindv (Lib.fields text1 : (List (List UInt8))) fun z4_3 =>
 bindv (decide (x0 < 1) : Bool) fun z6_6 =>
 bindv (decide ((z4_3.length : Int) < x0) : Bool) fun z11_7 =>
 bindv (z6_6 || z11_7 : Bool) fun z12_8 =>
 if z12_8 = true then (
  some []
 ) else (
  bindv (IntKind.wrap .i64 (x0 - 1) : Int) fun z15_10 =>
  chk ((0 : Int) ≤ z15_10 ∧ z15_10 < (z4_3.length : Int)) <|
  bindv (gel z4_3 z15_10 : List UInt8) fun z16_12 =>
  bindv (IntKind.wrap .i64 (x0 - 1) : Int) fun z20_13 =>
  chk ((0 : Int) ≤ z20_13 ∧ z20_13 < (z4_3.length : Int)) <|
  bindv (gel z4_3 z20_13 : List UInt8) fun z21_15 =>
  bindv (IntKind.wrap .i64 ((z21_15.length : Int) - 2) : Int) fun z24_16 =>
  chk ((0 : Int) ≤ z24_16 ∧ z24_16 ≤ (z16_12.length : Int)) <|
  bindv (cutS z16_12 0 z24_16 : List UInt8) fun z25_18 =>
  some z25_18
 )

def tree_Fits (x0 : Int) (x1 : Int) : Option (Bool) :=
 chk (text1.length < 4294967281 ∧ (text1.all fun b => decide (b.toNat < 128)) = true) <|
 bindv (Lib.fields text1 : (List (List UInt8))) fun z7_3 =>
 bindv (decide (x0 < 1) : Bool) fun z9_6 =>
 bindv (decide ((z7_3.length : Int) < x0) : Bool) fun z14_7 =>
 bindv (z9_6 || z14_7 : Bool) fun z15_8 =>
 if z15_8 = true then (
  some false
 ) else (
  bindv (IntKind.wrap .i64 (x0 - 1) : Int) fun z18_10 =>
  chk ((0 : Int) ≤ z18_10 ∧ z18_10 < (z7_3.length : Int)) <|
  bindv (gel z7_3 z18_10 : List UInt8) fun z19_12 =>
  bindv (IntKind.wrap .i64 ((z19_12.length : Int) - 2) : Int) fun z25_13 =>
  chk ((0 : Int) ≤ z25_13 ∧ z25_13 < (z19_12.length : Int)) <|
  bindv (bt z19_12 z25_13 : Int) fun z26_15 =>
  bindv (IntKind.wrap .u8 (z26_15 - 48) : Int) fun z27_16 =>
  bindv (IntKind.wrap .i64 z27_16 : Int) fun z28_17 =>
  bindv (decide (z28_17 ≤ x1) : Bool) fun z29_18 =>
  bindv (IntKind.wrap .i64 ((z19_12.length : Int) - 1) : Int) fun z35_19 =>
  chk (z29_18 = true → (0 : Int) ≤ z35_19 ∧ z35_19 < (z19_12.length : Int)) <|
  bindv (bt z19_12 z35_19 : Int) fun z36_21 =>
  bindv (IntKind.wrap .u8 (z36_21 - 48) : Int) fun z37_22 =>
  bindv (IntKind.wrap .i64 z37_22 : Int) fun z38_23 =>
  bindv (decide (x1 ≤ z38_23) : Bool) fun z39_24 =>
  bindv (z29_18 && z39_24 : Bool) fun z40_25 =>
  some z40_25
 )

def num_Of (x0 : Int) : Option (Int × Bool) :=
 bindv (decide (9223372036854 < x0) : Bool) fun z5_2 =>
 bindv (decide (x0 < (-9223372036854)) : Bool) fun z8_3 =>
 bindv (z5_2 || z8_3 : Bool) fun z9_4 =>
 if z9_4 = true then (
  some (0, false)
 ) else (
  bindv (IntKind.wrap .i64 (x0 * 1000000) : Int) fun z11_6 =>
  some (z11_6, true)
 )

def num_Floor (x0 : Int) : Option (Int × Bool) :=
 bindv (Int.tmod x0 1000000 : Int) fun z6_1 =>
 bindv ((fun s3 =>
  obind (num_Sub x0 s3) fun y13_4 =>
  some (y13_4.1, y13_4.2)
  ) : (Int) → Option (Int × Bool)) fun J3 =>
 bindv (decide (z6_1 < 0) : Bool) fun z8_5 =>
 if z8_5 = true then (
  bindv (IntKind.wrap .i64 (z6_1 + 1000000) : Int) fun z10_7 =>
  J3 z10_7
 ) else (
  J3 z6_1
 )

def maths_gcd (x0 : Int) (x1 : Int) : Option (Int) :=
 bindv ((fun s2 =>
  some s2
  ) : (Int) → Option (Int)) fun J2 =>
 bindv (fun (n3 : (Int × Int) → Option (Int)) (s3 : Int × Int) =>
  bindv (!decide (s3.2 = 0) : Bool) fun z6_6 =>
  if z6_6 = true then (
   chk (s3.2 ≠ 0) <|
   bindv (Int.tmod s3.1 s3.2 : Int) fun z10_10 =>
   n3 (s3.2, z10_10)
  ) else (
   J2 s3.1
  )
  ) fun B3 =>
 loopF B3 KK (x0, x1)

def maths_whole (x0 : List (Int)) : Option ((List (Int))) :=
 bindv ((fun s2 =>
  some s2
  ) : ((List (Int))) → Option ((List (Int)))) fun J2 =>
 bindv (fun (n5 : (Int × (List (Int))) → Option ((List (Int)))) (s5 : Int × (List (Int))) =>
  bindv (decide (s5.1 < (x0.length : Int)) : Bool) fun z9_8 =>
  if z9_8 = true then (
   chk ((0 : Int) ≤ s5.1 ∧ s5.1 < (x0.length : Int)) <|
   bindv (gel x0 s5.1 : Int) fun z10_13 =>
   bindv (IntKind.wrap .i64 (Int.tdiv z10_13 1000000) : Int) fun z14_14 =>
   chk (s5.2.length + [z14_14].length ≤ 9223372036854775807 ∧ (s5.2.length + [z14_14].length) * 8 ≤ 140737488355328) <|
   bindv (s5.2 ++ [z14_14] : List (Int)) fun z16_18 =>
   bindv (IntKind.wrap .i64 (s5.1 + 1) : Int) fun z17_19 =>
   n5 (z17_19, z16_18)
  ) else (
   J2 s5.2
  )
  ) fun B5 =>
 loopF B5 KK (0, ([] : List (Int)))

def maths_back (x0 : Int) : Option (V) :=
 obind (num_Of x0) fun y4_2 =>
 obind (value_Made y4_2.1 y4_2.2) fun y7_3 =>
 some y7_3

def maths_away (x0 : Int) (x1 : Bool) : Option (V) :=
 bindv (IntKind.wrap .i64 (Int.tdiv x0 1000000) : Int) fun z8_2 =>
 bindv ((fun s4 =>
  bindv ((fun s6 =>
   bindv ((fun s8 =>
    bindv (IntKind.wrap .i64 (s4.2 * s8) : Int) fun z27_9 =>
    obind (maths_back z27_9) fun y28_10 =>
    some y28_10
    ) : (Int) → Option (V)) fun J8 =>
   bindv (Int.tmod s6 2 : Int) fun z19_11 =>
   bindv (decide (z19_11 = 1) : Bool) fun z20_12 =>
   bindv (!(z20_12 == x1) : Bool) fun z22_13 =>
   if z22_13 = true then (
    bindv (IntKind.wrap .i64 (s6 + 1) : Int) fun z24_15 =>
    J8 z24_15
   ) else (
    J8 s6
   )
   ) : (Int) → Option (V)) fun J6 =>
  bindv (Int.tmod x0 1000000 : Int) fun z14_16 =>
  bindv (!decide (z14_16 = 0) : Bool) fun z15_17 =>
  if z15_17 = true then (
   bindv (IntKind.wrap .i64 (s4.1 + 1) : Int) fun z17_19 =>
   J6 z17_19
  ) else (
   J6 s4.1
  )
  ) : (Int × Int) → Option (V)) fun J4 =>
 bindv (decide (x0 < 0) : Bool) fun z10_20 =>
 if z10_20 = true then (
  bindv (IntKind.wrap .i64 (-z8_2) : Int) fun z12_22 =>
  J4 (z12_22, (-1))
 ) else (
  J4 (z8_2, 1)
 )

def maths_round (x0 : Int) (x1 : Int) : Option (V) :=
 bindv ((fun s3 =>
  chk (s3 ≠ 0) <|
  bindv (IntKind.wrap .i64 (Int.tdiv x0 s3) : Int) fun z17_5 =>
  chk (s3 ≠ 0) <|
  bindv (Int.tmod x0 s3 : Int) fun z20_7 =>
  bindv ((fun s9 =>
   bindv ((fun s11 =>
    chk (s3 ≠ 0) <|
    bindv (IntKind.wrap .i64 (Int.tdiv 9223372036854775807 s3) : Int) fun z38_14 =>
    bindv (decide (z38_14 < s11) : Bool) fun z39_15 =>
    chk ((!z39_15) = true → s3 ≠ 0) <|
    bindv (IntKind.wrap .i64 (Int.tdiv (-9223372036854775807) s3) : Int) fun z43_17 =>
    bindv (decide (s11 < z43_17) : Bool) fun z44_18 =>
    bindv (z39_15 || z44_18 : Bool) fun z45_19 =>
    if z45_19 = true then (
     obind (value_Fail (5 : Int)) fun y46_21 =>
     some y46_21
    ) else (
     bindv (IntKind.wrap .i64 (s11 * s3) : Int) fun z49_22 =>
     obind (value_Num z49_22) fun y50_23 =>
     some y50_23
    )
    ) : (Int) → Option (V)) fun J11 =>
   bindv (IntKind.wrap .i64 (s3 - s9) : Int) fun z28_24 =>
   bindv (decide (z28_24 ≤ s9) : Bool) fun z29_25 =>
   if z29_25 = true then (
    bindv (decide (x0 < 0) : Bool) fun z31_27 =>
    if z31_27 = true then (
     bindv (IntKind.wrap .i64 (z17_5 - 1) : Int) fun z33_29 =>
     J11 z33_29
    ) else (
     bindv (IntKind.wrap .i64 (z17_5 + 1) : Int) fun z35_30 =>
     J11 z35_30
    )
   ) else (
    J11 z17_5
   )
   ) : (Int) → Option (V)) fun J9 =>
  bindv (decide (z20_7 < 0) : Bool) fun z22_31 =>
  if z22_31 = true then (
   bindv (IntKind.wrap .i64 (-z20_7) : Int) fun z24_33 =>
   J9 z24_33
  ) else (
   J9 z20_7
  )
  ) : (Int) → Option (V)) fun J3 =>
 bindv (IntKind.wrap .i64 (6 - x1) : Int) fun z9_34 =>
 bindv (fun (n36 : (Int × Int) → Option (V)) (s36 : Int × Int) =>
  bindv (decide (s36.2 < z9_34) : Bool) fun z11_38 =>
  if z11_38 = true then (
   bindv (IntKind.wrap .i64 (s36.1 * 10) : Int) fun z13_42 =>
   bindv (IntKind.wrap .i64 (s36.2 + 1) : Int) fun z14_43 =>
   n36 (z13_42, z14_43)
  ) else (
   J3 s36.1
  )
  ) fun B36 =>
 loopF B36 KK (1, 0)

def lists_numbers (x0 : List (V)) : Option ((List (Int))) :=
 bindv ((fun s2 =>
  some s2
  ) : ((List (Int))) → Option ((List (Int)))) fun J2 =>
 bindv (fun (n5 : (Int × (List (Int))) → Option ((List (Int)))) (s5 : Int × (List (Int))) =>
  bindv (decide (s5.1 < (x0.length : Int)) : Bool) fun z9_8 =>
  if z9_8 = true then (
   chk ((0 : Int) ≤ s5.1 ∧ s5.1 < (x0.length : Int)) <|
   bindv (gel x0 s5.1 : V) fun z10_13 =>
   bindv (decide (z10_13.k = 1) : Bool) fun z14_15 =>
   if z14_15 = true then (
    chk (s5.2.length + [z10_13.n].length ≤ 9223372036854775807 ∧ (s5.2.length + [z10_13.n].length) * 8 ≤ 140737488355328) <|
    bindv (s5.2 ++ [z10_13.n] : List (Int)) fun z19_20 =>
    bindv (IntKind.wrap .i64 (s5.1 + 1) : Int) fun z20_21 =>
    n5 (z20_21, z19_20)
   ) else (
    bindv (IntKind.wrap .i64 (s5.1 + 1) : Int) fun z20_22 =>
    n5 (z20_22, s5.2)
   )
  ) else (
   J2 s5.2
  )
  ) fun B5 =>
 loopF B5 KK (0, ([] : List (Int)))

def lists_Sum (x0 : List (V)) : Option (V) :=
 bindv ((fun s3 =>
  obind (value_Made s3.1 s3.2) fun y24_4 =>
  some y24_4
  ) : (Int × Bool) → Option (V)) fun J3 =>
 obind (lists_numbers x0) fun y8_5 =>
 bindv (fun (n8 : (Int × Bool × Int) → Option (V)) (s8 : Int × Bool × Int) =>
  bindv (decide (s8.2.2 < (y8_5.length : Int)) : Bool) fun z11_10 =>
  if z11_10 = true then (
   chk ((0 : Int) ≤ s8.2.2 ∧ s8.2.2 < (y8_5.length : Int)) <|
   bindv (gel y8_5 s8.2.2 : Int) fun z12_15 =>
   if s8.2.1 = true then (
    obind (num_Add s8.1 z12_15) fun y18_17 =>
    bindv (IntKind.wrap .i64 (s8.2.2 + 1) : Int) fun z21_18 =>
    n8 (y18_17.1, y18_17.2, z21_18)
   ) else (
    bindv (IntKind.wrap .i64 (s8.2.2 + 1) : Int) fun z21_19 =>
    n8 (s8.1, s8.2.1, z21_19)
   )
  ) else (
   J3 (s8.1, s8.2.1)
  )
  ) fun B8 =>
 loopF B8 KK (0, true, 0)

def lists_Extreme (x0 : Bool) (x1 : List (V)) : Option (V) :=
 obind (lists_numbers x1) fun y10_2 =>
 bindv (decide ((y10_2.length : Int) = 0) : Bool) fun z13_5 =>
 if z13_5 = true then (
  obind (value_Num (0 : Int)) fun y14_7 =>
  some y14_7
 ) else (
  chk ((0 : Int) ≤ 0 ∧ 0 < (y10_2.length : Int)) <|
  bindv (gel y10_2 0 : Int) fun z16_9 =>
  bindv ((fun s11 =>
   obind (value_Num s11) fun y37_12 =>
   some y37_12
   ) : (Int) → Option (V)) fun J11 =>
  bindv (fun (n14 : (Int × Int) → Option (V)) (s14 : Int × Int) =>
   bindv (decide (s14.2 < (y10_2.length : Int)) : Bool) fun z21_16 =>
   if z21_16 = true then (
    chk ((0 : Int) ≤ s14.2 ∧ s14.2 < (y10_2.length : Int)) <|
    bindv (gel y10_2 s14.2 : Int) fun z22_21 =>
    bindv (decide (s14.1 < z22_21) : Bool) fun z26_22 =>
    bindv (z26_22 == x0 : Bool) fun z28_23 =>
    bindv (!decide (z22_21 = s14.1) : Bool) fun z32_24 =>
    bindv (z28_23 && z32_24 : Bool) fun z33_25 =>
    if z33_25 = true then (
     bindv (IntKind.wrap .i64 (s14.2 + 1) : Int) fun z35_27 =>
     n14 (z22_21, z35_27)
    ) else (
     bindv (IntKind.wrap .i64 (s14.2 + 1) : Int) fun z35_28 =>
     n14 (s14.1, z35_28)
    )
   ) else (
    J11 s14.1
   )
   ) fun B14 =>
  loopF B14 KK (z16_9, 0)
 )

def lists_equal (x0 : V) (x1 : V) : Option (Bool) :=
 bindv (decide (x0.k = x1.k) : Bool) fun z9_3 =>
 bindv (decide (x0.n = x1.n) : Bool) fun z15_4 =>
 bindv (z9_3 && z15_4 : Bool) fun z16_5 =>
 bindv (decide (x0.s = x1.s) : Bool) fun z22_6 =>
 bindv (z16_5 && z22_6 : Bool) fun z23_7 =>
 some z23_7

def lists_Count (x0 : Int) (x1 : Bool) (x2 : List (V)) : Option (V) :=
 bindv ((fun s3 =>
  obind (num_Of s3) fun y26_4 =>
  obind (value_Made y26_4.1 y26_4.2) fun y29_5 =>
  some y29_5
  ) : (Int) → Option (V)) fun J3 =>
 bindv (fun (n7 : (Int × Int) → Option (V)) (s7 : Int × Int) =>
  bindv (decide (s7.2 < (x2.length : Int)) : Bool) fun z13_9 =>
  if z13_9 = true then (
   chk ((0 : Int) ≤ s7.2 ∧ s7.2 < (x2.length : Int)) <|
   bindv (gel x2 s7.2 : V) fun z14_14 =>
   bindv (decide (z14_14.k = x0) : Bool) fun z19_16 =>
   bindv (z19_16 == x1 : Bool) fun z21_17 =>
   if z21_17 = true then (
    bindv (IntKind.wrap .i64 (s7.1 + 1) : Int) fun z23_19 =>
    bindv (IntKind.wrap .i64 (s7.2 + 1) : Int) fun z24_20 =>
    n7 (z23_19, z24_20)
   ) else (
    bindv (IntKind.wrap .i64 (s7.2 + 1) : Int) fun z24_21 =>
    n7 (s7.1, z24_21)
   )
  ) else (
   J3 s7.1
  )
  ) fun B7 =>
 loopF B7 KK (0, 0)

def lists_CountIf (x0 : V) (x1 : List (V)) : Option (V) :=
 bindv ((fun s4 =>
  obind (num_Of s4) fun y21_5 =>
  obind (value_Made y21_5.1 y21_5.2) fun y24_6 =>
  some y24_6
  ) : (Int) → Option (V)) fun J4 =>
 bindv (fun (n8 : (Int × Int) → Option (V)) (s8 : Int × Int) =>
  bindv (decide (s8.2 < (x1.length : Int)) : Bool) fun z11_10 =>
  if z11_10 = true then (
   chk ((0 : Int) ≤ s8.2 ∧ s8.2 < (x1.length : Int)) <|
   bindv (gel x1 s8.2 : V) fun z12_15 =>
   obind (lists_equal z12_15 x0) fun y16_17 =>
   if y16_17 = true then (
    bindv (IntKind.wrap .i64 (s8.1 + 1) : Int) fun z18_19 =>
    bindv (IntKind.wrap .i64 (s8.2 + 1) : Int) fun z19_20 =>
    n8 (z18_19, z19_20)
   ) else (
    bindv (IntKind.wrap .i64 (s8.2 + 1) : Int) fun z19_21 =>
    n8 (s8.1, z19_21)
   )
  ) else (
   J4 s8.1
  )
  ) fun B8 =>
 loopF B8 KK (0, 0)

def lists_SumIf (x0 : V) (x1 : List (V)) : Option (V) :=
 bindv ((fun s4 =>
  obind (lists_Sum s4) fun y23_6 =>
  some y23_6
  ) : ((List (V))) → Option (V)) fun J4 =>
 bindv (fun (n8 : (Int × (List (V))) → Option (V)) (s8 : Int × (List (V))) =>
  bindv (decide (s8.1 < (x1.length : Int)) : Bool) fun z11_11 =>
  if z11_11 = true then (
   chk ((0 : Int) ≤ s8.1 ∧ s8.1 < (x1.length : Int)) <|
   bindv (gel x1 s8.1 : V) fun z12_16 =>
   obind (lists_equal z12_16 x0) fun y16_18 =>
   if y16_18 = true then (
    chk (s8.2.length + [z12_16].length ≤ 9223372036854775807 ∧ (s8.2.length + [z12_16].length) * 32 ≤ 140737488355328) <|
    bindv (s8.2 ++ [z12_16] : List (V)) fun z20_23 =>
    bindv (IntKind.wrap .i64 (s8.1 + 1) : Int) fun z21_24 =>
    n8 (z21_24, z20_23)
   ) else (
    bindv (IntKind.wrap .i64 (s8.1 + 1) : Int) fun z21_25 =>
    n8 (z21_25, s8.2)
   )
  ) else (
   J4 s8.2
  )
  ) fun B8 =>
 loopF B8 KK (0, ([] : List (V)))

def lists_Match (x0 : V) (x1 : List (V)) : Option (V) :=
 bindv ((fun s4 =>
  obind (value_Fail (6 : Int)) fun y24_5 =>
  some y24_5
  ) : (Int × Int × (List UInt8)) → Option (V)) fun J4 =>
 bindv (fun (n7 : (Int × Int × Int × (List UInt8)) → Option (V)) (s7 : Int × Int × Int × (List UInt8)) =>
  bindv (decide (s7.1 < (x1.length : Int)) : Bool) fun z10_9 =>
  if z10_9 = true then (
   chk ((0 : Int) ≤ s7.1 ∧ s7.1 < (x1.length : Int)) <|
   bindv (gel x1 s7.1 : V) fun z12_14 =>
   obind (lists_equal z12_14 x0) fun y16_16 =>
   if y16_16 = true then (
    bindv (IntKind.wrap .i64 (s7.1 + 1) : Int) fun z18_18 =>
    obind (num_Of z18_18) fun y19_19 =>
    obind (value_Made y19_19.1 y19_19.2) fun y22_20 =>
    some y22_20
   ) else (
    bindv (IntKind.wrap .i64 (s7.1 + 1) : Int) fun z23_21 =>
    n7 (z23_21, s7.2.1, s7.2.2.1, s7.2.2.2)
   )
  ) else (
   J4 (s7.2.1, s7.2.2.1, s7.2.2.2)
  )
  ) fun B7 =>
 loopF B7 KK (0, 0, 0, [])

def lists_Index (x0 : Int) (x1 : Int) (x2 : Int) (x3 : List (V)) : Option (V) :=
 bindv (decide (x0 < 1) : Bool) fun z10_3 =>
 bindv (decide (x1 < 1) : Bool) fun z13_4 =>
 bindv (z10_3 || z13_4 : Bool) fun z14_5 =>
 bindv (decide (x2 < 1) : Bool) fun z17_6 =>
 bindv (z14_5 || z17_6 : Bool) fun z18_7 =>
 bindv (decide (x0 < x2) : Bool) fun z22_8 =>
 bindv (z18_7 || z22_8 : Bool) fun z23_9 =>
 chk ((!z23_9) = true → x0 ≠ 0) <|
 bindv (IntKind.wrap .i64 (Int.tdiv (x3.length : Int) x0) : Int) fun z29_11 =>
 bindv (decide (z29_11 < x1) : Bool) fun z30_12 =>
 bindv (z23_9 || z30_12 : Bool) fun z31_13 =>
 if z31_13 = true then (
  obind (value_Fail (3 : Int)) fun y32_15 =>
  some y32_15
 ) else (
  bindv (IntKind.wrap .i64 (x1 - 1) : Int) fun z35_16 =>
  bindv (IntKind.wrap .i64 (z35_16 * x0) : Int) fun z37_17 =>
  bindv (IntKind.wrap .i64 (x2 - 1) : Int) fun z39_18 =>
  bindv (IntKind.wrap .i64 (z37_17 + z39_18) : Int) fun z40_19 =>
  chk ((0 : Int) ≤ z40_19 ∧ z40_19 < (x3.length : Int)) <|
  bindv (gel x3 z40_19 : V) fun z41_21 =>
  some z41_21
 )

def lists_VLookup (x0 : V) (x1 : Int) (x2 : Int) (x3 : List (V)) : Option (V) :=
 bindv (decide (x1 < 1) : Bool) fun z11_4 =>
 bindv (decide (x2 < 1) : Bool) fun z14_5 =>
 bindv (z11_4 || z14_5 : Bool) fun z15_6 =>
 bindv (decide (x1 < x2) : Bool) fun z19_7 =>
 bindv (z15_6 || z19_7 : Bool) fun z20_8 =>
 if z20_8 = true then (
  obind (value_Fail (3 : Int)) fun y21_10 =>
  some y21_10
 ) else (
  bindv ((fun s12 =>
   obind (value_Fail (6 : Int)) fun y44_13 =>
   some y44_13
   ) : (Int × Int × (List UInt8)) → Option (V)) fun J12 =>
  bindv (fun (n15 : (Int × Int × Int × (List UInt8)) → Option (V)) (s15 : Int × Int × Int × (List UInt8)) =>
   bindv (IntKind.wrap .i64 (s15.1 + x1) : Int) fun z24_18 =>
   bindv (decide (z24_18 ≤ (x3.length : Int)) : Bool) fun z27_19 =>
   if z27_19 = true then (
    chk ((0 : Int) ≤ s15.1 ∧ s15.1 < (x3.length : Int)) <|
    bindv (gel x3 s15.1 : V) fun z33_23 =>
    obind (lists_equal z33_23 x0) fun y36_24 =>
    if y36_24 = true then (
     bindv (IntKind.wrap .i64 (s15.1 + x2) : Int) fun z40_26 =>
     bindv (IntKind.wrap .i64 (z40_26 - 1) : Int) fun z41_27 =>
     chk ((0 : Int) ≤ z41_27 ∧ z41_27 < (x3.length : Int)) <|
     bindv (gel x3 z41_27 : V) fun z42_29 =>
     some z42_29
    ) else (
     bindv (IntKind.wrap .i64 (s15.1 + x1) : Int) fun z30_30 =>
     n15 (z30_30, s15.2.1, s15.2.2.1, s15.2.2.2)
    )
   ) else (
    J12 (s15.2.1, s15.2.2.1, s15.2.2.2)
   )
   ) fun B15 =>
  loopF B15 KK (0, 0, 0, [])
 )

def texts_trimmed (x0 : List UInt8) : Option ((List UInt8)) :=
 bindv ((fun s2 =>
  some s2
  ) : ((List UInt8)) → Option ((List UInt8))) fun J2 =>
 bindv (fun (n4 : ((List UInt8) × Bool × Int) → Option ((List UInt8))) (s4 : (List UInt8) × Bool × Int) =>
  bindv (decide (s4.2.2 < (x0.length : Int)) : Bool) fun z9_6 =>
  if z9_6 = true then (
   chk ((0 : Int) ≤ s4.2.2 ∧ s4.2.2 < (x0.length : Int)) <|
   bindv (bt x0 s4.2.2 : Int) fun z13_12 =>
   bindv (decide (z13_12 = 32) : Bool) fun z14_13 =>
   if z14_13 = true then (
    bindv (!decide (s4.1 = []) : Bool) fun z16_15 =>
    bindv (IntKind.wrap .i64 (s4.2.2 + 1) : Int) fun z27_16 =>
    n4 (s4.1, z16_15, z27_16)
   ) else (
    bindv ((fun s18 =>
     bindv (IntKind.wrap .i64 (s4.2.2 + 1) : Int) fun z24_19 =>
     chk ((0 : Int) ≤ s4.2.2 ∧ s4.2.2 ≤ z24_19 ∧ z24_19 ≤ (x0.length : Int)) <|
     bindv (cutS x0 s4.2.2 z24_19 : List UInt8) fun z25_21 =>
     chk (s18.length + z25_21.length ≤ 9223372036854775807) <|
     bindv (s18 ++ z25_21 : List UInt8) fun z26_23 =>
     bindv (IntKind.wrap .i64 (s4.2.2 + 1) : Int) fun z27_24 =>
     n4 (z26_23, false, z27_24)
     ) : ((List UInt8)) → Option ((List UInt8))) fun J18 =>
    if s4.2.1 = true then (
     chk (s4.1.length + ([32] : List UInt8).length ≤ 9223372036854775807) <|
     bindv (s4.1 ++ ([32] : List UInt8) : List UInt8) fun z19_27 =>
     J18 z19_27
    ) else (
     J18 s4.1
    )
   )
  ) else (
   J2 s4.1
  )
  ) fun B4 =>
 loopF B4 KK ([], false, 0)

def texts_runes (x0 : List UInt8) : Option (Int) :=
 bindv ((fun s2 =>
  some s2
  ) : (Int) → Option (Int)) fun J2 =>
 bindv (fun (n5 : (Int × Nat) → Option (Int)) (s5 : Int × Nat) =>
  bindv (decide (s5.2 < x0.length) : Bool) fun z7_7 =>
  if z7_7 = true then (
   bindv (IntKind.wrap .i64 (s5.1 + 1) : Int) fun z9_11 =>
   n5 (z9_11, nextP x0 s5.2)
  ) else (
   J2 s5.1
  )
  ) fun B5 =>
 loopF B5 KK (0, 0)

def texts_count (x0 : Int) (x1 : List UInt8) : Option (Int × Bool) :=
 bindv (IntKind.wrap .i64 (Int.tdiv x0 1000000) : Int) fun z7_1 =>
 bindv (max z7_1 0 : Int) fun z9_2 =>
 bindv (min z9_2 (x1.length : Int) : Int) fun z12_3 =>
 bindv (decide (0 ≤ z7_1) : Bool) fun z14_4 =>
 some (z12_3, z14_4)
end Go.Sp
