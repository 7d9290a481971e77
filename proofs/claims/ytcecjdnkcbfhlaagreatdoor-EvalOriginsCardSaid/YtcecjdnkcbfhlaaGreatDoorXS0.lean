/- Joined texts. -/
import Derived.Lib.Fields
import Derived.Lib.Index
import Derived.Lib.Join
import Derived.Lib.Replace
import Derived.Lib.Strings
import Derived.Lib.Bytealg
import Derived.Lib.Repeat
import Derived.Lib.BitFns
import Derived.Lib.ItoaNum
import Derived.Test.YtcecjdnkcbfhlaaGreatDoorXL0
import Derived.Test.YtcecjdnkcbfhlaaGreatDoorXL1
set_option linter.unusedSimpArgs false
set_option linter.unusedVariables false
set_option linter.unusedSectionVars false
section
namespace Go.Sp
open Go.Stp Go.ValP
def value_Num (x0 : Int) : Option (V) :=
 some (⟨1, x0, []⟩ : V)
def value_Fail (x0 : Int) : Option (V) :=
 some (⟨4, x0, []⟩ : V)
def value_Bool (x0 : Bool) : Option (V) :=
 bindv ((fun s4 =>
  some (⟨3, s4, []⟩ : V)
  ) : (Int) → Option (V)) fun J4 =>
 if x0 = true then (
  J4 1
 ) else (
  J4 0
 )
def value_Text (x0 : List UInt8) : Option (V) :=
 bindv (decide (64 < (x0.length : Int)) : Bool) fun z5_3 =>
 if z5_3 = true then (
  obind (value_Fail (2 : Int)) fun y6_5 =>
  some y6_5
 ) else (
  some (⟨2, 0, x0⟩ : V)
 )
def value_Made (x0 : Int) (x1 : Bool) : Option (V) :=
 bindv (!x1 : Bool) fun z6_3 =>
 if z6_3 = true then (
  obind (value_Fail (5 : Int)) fun y7_5 =>
  some y7_5
 ) else (
  obind (value_Num x0) fun y9_6 =>
  some y9_6
 )
def value_Right (x0 : V) : Option (Bool) :=
 bindv (decide (x0.k = 0) : Bool) fun z6_4 =>
 if z6_4 = true then (
  bindv (decide (x0.n = 0) : Bool) fun z9_6 =>
  bindv (decide (x0.s = []) : Bool) fun z13_7 =>
  bindv (z9_6 && z13_7 : Bool) fun z14_8 =>
  some z14_8
 ) else (
  bindv (decide (x0.k = 1) : Bool) fun z16_9 =>
  if z16_9 = true then (
   bindv (!decide (x0.n = (-9223372036854775808)) : Bool) fun z19_11 =>
   bindv (decide (x0.s = []) : Bool) fun z23_12 =>
   bindv (z19_11 && z23_12 : Bool) fun z24_13 =>
   some z24_13
  ) else (
   bindv (decide (x0.k = 2) : Bool) fun z26_14 =>
   if z26_14 = true then (
    bindv (decide (x0.n = 0) : Bool) fun z29_16 =>
    bindv (decide ((x0.s.length : Int) ≤ 64) : Bool) fun z34_17 =>
    bindv (z29_16 && z34_17 : Bool) fun z35_18 =>
    some z35_18
   ) else (
    bindv (decide (x0.k = 3) : Bool) fun z37_19 =>
    if z37_19 = true then (
     bindv (bits .and .i64 x0.n 1 : Int) fun z40_21 =>
     bindv (decide (z40_21 = x0.n) : Bool) fun z43_22 =>
     bindv (decide (x0.s = []) : Bool) fun z47_23 =>
     bindv (z43_22 && z47_23 : Bool) fun z48_24 =>
     some z48_24
    ) else (
     bindv (decide (x0.k = 4) : Bool) fun z50_25 =>
     if z50_25 = true then (
      bindv (decide (1 ≤ x0.n) : Bool) fun z53_27 =>
      bindv (decide (x0.n ≤ 7) : Bool) fun z57_28 =>
      bindv (z53_27 && z57_28 : Bool) fun z58_29 =>
      bindv (decide (x0.s = []) : Bool) fun z62_30 =>
      bindv (z58_29 && z62_30 : Bool) fun z63_31 =>
      some z63_31
     ) else (
      some false
     )
    )
   )
  )
 )
def value_like (x0 : V) (x1 : V) : Option (V) :=
 bindv (!decide (x0.k = 0) : Bool) fun z7_5 =>
 if z7_5 = true then (
  some x0
 ) else (
  bindv (decide (x1.k = 2) : Bool) fun z12_9 =>
  if z12_9 = true then (
   obind (value_Text []) fun y13_11 =>
   some y13_11
  ) else (
   bindv (decide (x1.k = 3) : Bool) fun z15_12 =>
   if z15_12 = true then (
    obind (value_Bool false) fun y16_14 =>
    some y16_14
   ) else (
    obind (value_Num (0 : Int)) fun y17_15 =>
    some y17_15
   )
  )
 )
def value_rank (x0 : V) : Option (Int) :=
 some x0.k
def num_fits (x0 : Int) : Option (Bool) :=
 bindv (decide ((-9223372036854775807) ≤ x0) : Bool) fun z4_1 =>
 some z4_1
def num_Add (x0 : Int) (x1 : Int) : Option (Int × Bool) :=
 bindv (IntKind.wrap .i64 (x0 + x1) : Int) fun z9_1 =>
 obind (num_fits z9_1) fun y12_2 =>
 bindv (decide (x0 < z9_1) : Bool) fun z16_3 =>
 bindv (decide (0 < x1) : Bool) fun z18_4 =>
 bindv (z16_3 == z18_4 : Bool) fun z19_5 =>
 bindv (y12_2 && z19_5 : Bool) fun z20_6 =>
 some (z9_1, z20_6)
def num_Sub (x0 : Int) (x1 : Int) : Option (Int × Bool) :=
 bindv (IntKind.wrap .i64 (-x1) : Int) fun z8_1 =>
 obind (num_Add x0 z8_1) fun y9_2 =>
 some (y9_2.1, y9_2.2)
def num_abs (x0 : Int) : Option (Int) :=
 bindv (decide (x0 < 0) : Bool) fun z4_2 =>
 if z4_2 = true then (
  bindv (IntKind.wrap .u64 x0 : Int) fun z6_4 =>
  bindv (IntKind.wrap .u64 (-z6_4) : Int) fun z7_5 =>
  some z7_5
 ) else (
  bindv (IntKind.wrap .u64 x0 : Int) fun z9_6 =>
  some z9_6
 )
def num_signed (x0 : Int) (x1 : Bool) : Option (Int × Bool) :=
 bindv (decide (9223372036854775807 < x0) : Bool) fun z7_2 =>
 if z7_2 = true then (
  some (0, false)
 ) else (
  if x1 = true then (
   bindv (IntKind.wrap .i64 x0 : Int) fun z10_6 =>
   bindv (IntKind.wrap .i64 (-z10_6) : Int) fun z11_7 =>
   some (z11_7, true)
  ) else (
   bindv (IntKind.wrap .i64 x0 : Int) fun z13_8 =>
   some (z13_8, true)
  )
 )
end Go.Sp
end
section
namespace Go.Sp
open Go.Stp Go.ValP
def text0 : List UInt8 := [35, 68, 73, 86, 47, 48, 33, 32, 35, 86, 65, 76, 85, 69, 33, 32, 35, 82, 69, 70, 33, 32, 35, 78, 65, 77, 69, 63, 32, 35, 78, 85, 77, 33, 32, 35, 78, 47, 65, 32, 35, 67, 89, 67, 76, 69, 33]
def value_ErrorName (x0 : Int) : Option ((List UInt8)) :=
 chk (text0.length < 4294967281 ∧ (text0.all fun b => decide (b.toNat < 128)) = true) <|
 bindv (Lib.fields text0 : (List (List UInt8))) fun z4_3 =>
 bindv (decide (x0 < 1) : Bool) fun z6_6 =>
 bindv (decide ((z4_3.length : Int) < x0) : Bool) fun z11_7 =>
 bindv (z6_6 || z11_7 : Bool) fun z12_8 =>
 if z12_8 = true then (
  some []
 ) else (
  bindv (IntKind.wrap .i64 (x0 - 1) : Int) fun z15_10 =>
  chk ((0 : Int) ≤ z15_10 ∧ z15_10 < (z4_3.length : Int)) <|
  bindv (gel z4_3 z15_10 : List UInt8) fun z16_12 =>
  some z16_12
 )
def num_Parse (x0 : List UInt8) : Option (Int × Bool) :=
 bindv ((fun s2 =>
  bindv ((fun s4 =>
   bindv (decide (s2.2.2 = 0) : Bool) fun z78_6 =>
   bindv (decide (s2.2.1 = 0) : Bool) fun z81_7 =>
   bindv (z78_6 || z81_7 : Bool) fun z82_8 =>
   if z82_8 = true then (
    some (0, false)
   ) else (
    obind (num_signed s4 false) fun y84_10 =>
    some (y84_10.1, y84_10.2)
   )
   ) : (Int) → Option (Int × Bool)) fun J4 =>
  bindv (max s2.2.1 0 : Int) fun z64_11 =>
  bindv (fun (n13 : (Int × Int) → Option (Int × Bool)) (s13 : Int × Int) =>
   bindv (decide (s13.2 < 6) : Bool) fun z66_16 =>
   if z66_16 = true then (
    chk ((0 ≤ s13.1 ∧ s13.1 ≤ 18446744073709551615) ∧ 0 ≤ (10 : Int) ∧ (10 : Int) ≤ 18446744073709551615) <|
    bindv ((s13.1 * (10 : Int) / 18446744073709551616, s13.1 * (10 : Int) % 18446744073709551616) : Int × Int) fun z71_21 =>
    bindv (decide (0 < z71_21.1) : Bool) fun z75_23 =>
    if z75_23 = true then (
     some (0, false)
    ) else (
     bindv (IntKind.wrap .i64 (s13.2 + 1) : Int) fun z68_25 =>
     n13 (z71_21.2, z68_25)
    )
   ) else (
    J4 s13.1
   )
   ) fun B13 =>
  loopF B13 KK (s2.1, z64_11)
  ) : (Int × Int × Int) → Option (Int × Bool)) fun J2 =>
 bindv (fun (n28 : (Int × Int × Int × Nat) → Option (Int × Bool)) (s28 : Int × Int × Int × Nat) =>
  bindv (decide (s28.2.2.2 < x0.length) : Bool) fun z18_30 =>
  if z18_30 = true then (
   bindv ((fun s35 =>
    chk ((0 ≤ s28.1 ∧ s28.1 ≤ 18446744073709551615) ∧ 0 ≤ (10 : Int) ∧ (10 : Int) ≤ 18446744073709551615) <|
    bindv ((s28.1 * (10 : Int) / 18446744073709551616, s28.1 * (10 : Int) % 18446744073709551616) : Int × Int) fun z45_38 =>
    bindv (IntKind.wrap .i32 ((rn x0 s28.2.2.2) - 48) : Int) fun z51_39 =>
    bindv (IntKind.wrap .u64 z51_39 : Int) fun z52_40 =>
    chk (0 ≤ z45_38.2 ∧ 0 ≤ z52_40 ∧ 0 ≤ (0 : Int) ∧ (0 : Int) ≤ 1) <|
    bindv (((z45_38.2 + z52_40 + (0 : Int)) % 18446744073709551616, (z45_38.2 + z52_40 + (0 : Int)) / 18446744073709551616) : Int × Int) fun z53_43 =>
    bindv (IntKind.wrap .u64 (z45_38.1 + z53_43.2) : Int) fun z58_45 =>
    bindv (decide (0 < z58_45) : Bool) fun z59_46 =>
    if z59_46 = true then (
     some (0, false)
    ) else (
     bindv (IntKind.wrap .i64 (s28.2.2.1 + 1) : Int) fun z62_48 =>
     n28 (z53_43.1, s35, z62_48, nextP x0 s28.2.2.2)
    )
    ) : (Int) → Option (Int × Bool)) fun J35 =>
   bindv (decide ((rn x0 s28.2.2.2) = 46) : Bool) fun z22_49 =>
   bindv (decide (s28.2.1 < 0) : Bool) fun z25_50 =>
   bindv (z22_49 && z25_50 : Bool) fun z26_51 =>
   if z26_51 = true then (
    n28 (s28.1, 0, s28.2.2.1, nextP x0 s28.2.2.2)
   ) else (
    bindv (decide ((rn x0 s28.2.2.2) < 48) : Bool) fun z29_53 =>
    bindv (decide (57 < (rn x0 s28.2.2.2)) : Bool) fun z32_54 =>
    bindv (z29_53 || z32_54 : Bool) fun z33_55 =>
    bindv (decide (s28.2.1 = 6) : Bool) fun z36_56 =>
    bindv (z33_55 || z36_56 : Bool) fun z37_57 =>
    if z37_57 = true then (
     some (0, false)
    ) else (
     bindv (decide (0 ≤ s28.2.1) : Bool) fun z40_59 =>
     if z40_59 = true then (
      bindv (IntKind.wrap .i64 (s28.2.1 + 1) : Int) fun z42_61 =>
      J35 z42_61
     ) else (
      J35 s28.2.1
     )
    )
   )
  ) else (
   J2 (s28.1, s28.2.1, s28.2.2.1)
  )
  ) fun B28 =>
 loopF B28 KK (0, (-1), 0, 0)
def value_ToNum (x0 : V) : Option (V) :=
 bindv ((fun s6 =>
  if s6 = true then (
   some x0
  ) else (
   bindv (decide (x0.k = 0) : Bool) fun z14_8 =>
   if z14_8 = true then (
    obind (value_Num (0 : Int)) fun y15_10 =>
    some y15_10
   ) else (
    bindv (decide (x0.k = 3) : Bool) fun z17_11 =>
    if z17_11 = true then (
     bindv (IntKind.wrap .i64 (x0.n * 1000000) : Int) fun z20_13 =>
     obind (value_Num z20_13) fun y21_14 =>
     some y21_14
    ) else (
     bindv ((Lib.trimPrefix x0.s ([45] : List UInt8), Lib.hasPrefix x0.s ([45] : List UInt8)) : (List UInt8) × Bool) fun z25_16 =>
     obind (num_Parse z25_16.1) fun y30_17 =>
     bindv (!y30_17.2 : Bool) fun z34_19 =>
     if z34_19 = true then (
      obind (value_Fail (2 : Int)) fun y35_21 =>
      some y35_21
     ) else (
      bindv ((fun s23 =>
       obind (value_Num s23) fun y40_24 =>
       some y40_24
       ) : (Int) → Option (V)) fun J23 =>
      if z25_16.2 = true then (
       bindv (IntKind.wrap .i64 (-y30_17.1) : Int) fun z38_26 =>
       J23 z38_26
      ) else (
       J23 y30_17.1
      )
     )
    )
   )
  )
  ) : (Bool) → Option (V)) fun J6 =>
 bindv (decide (x0.k = 1) : Bool) fun z10_27 =>
 if z10_27 = true then (
  J6 z10_27
 ) else (
  bindv (decide (x0.k = 4) : Bool) fun z11_29 =>
  J6 z11_29
 )
def value_ToBool (x0 : V) : Option (V) :=
 bindv ((fun s6 =>
  if s6 = true then (
   some x0
  ) else (
   bindv (decide (x0.k = 0) : Bool) fun z10_8 =>
   if z10_8 = true then (
    obind (value_Bool false) fun y11_10 =>
    some y11_10
   ) else (
    bindv (decide (x0.k = 1) : Bool) fun z13_11 =>
    if z13_11 = true then (
     bindv (!decide (x0.n = 0) : Bool) fun z16_13 =>
     obind (value_Bool z16_13) fun y17_14 =>
     some y17_14
    ) else (
     bindv (decide (x0.s = ([84, 82, 85, 69] : List UInt8)) : Bool) fun z20_16 =>
     bindv (decide (x0.s = ([70, 65, 76, 83, 69] : List UInt8)) : Bool) fun z24_17 =>
     bindv (z20_16 || z24_17 : Bool) fun z25_18 =>
     if z25_18 = true then (
      bindv (decide (x0.s = ([84, 82, 85, 69] : List UInt8)) : Bool) fun z28_20 =>
      obind (value_Bool z28_20) fun y29_21 =>
      some y29_21
     ) else (
      obind (value_Fail (2 : Int)) fun y30_22 =>
      some y30_22
     )
    )
   )
  )
  ) : (Bool) → Option (V)) fun J6 =>
 bindv (decide (x0.k = 3) : Bool) fun z6_23 =>
 if z6_23 = true then (
  J6 z6_23
 ) else (
  bindv (decide (x0.k = 4) : Bool) fun z7_25 =>
  J6 z7_25
 )
end Go.Sp
end
section
namespace Go.Sp
open Go.Stp Go.ValP
def text1 : List UInt8 := [73, 70, 50, 51, 32, 73, 70, 69, 82, 82, 79, 82, 50, 50, 32, 65, 78, 68, 49, 57, 32, 79, 82, 49, 57, 32, 67, 72, 79, 79, 83, 69, 50, 57, 32, 65, 66, 83, 49, 49, 32, 83, 73, 71, 78, 49, 49, 32, 73, 78, 84, 49, 49, 32, 82, 79, 85, 78, 68, 50, 50, 32, 77, 79, 68, 50, 50, 32, 80, 79, 87, 69, 82, 50, 50, 32, 81, 85, 79, 84, 73, 69, 78, 84, 50, 50, 32, 71, 67, 68, 50, 50, 32, 76, 67, 77, 50, 50, 32, 70, 65, 67, 84, 49, 49, 32, 69, 86, 69, 78, 49, 49, 32, 79, 68, 68, 49, 49, 32, 84, 82, 85, 78, 67, 49, 49, 32, 77, 73, 78, 49, 57, 32, 77, 65, 88, 49, 57, 32, 83, 85, 77, 49, 57, 32, 80, 82, 79, 68, 85, 67, 84, 49, 57, 32, 67, 79, 85, 78, 84, 49, 57, 32, 67, 79, 85, 78, 84, 65, 49, 57, 32, 67, 79, 85, 78, 84, 66, 76, 65, 78, 75, 49, 49, 32, 65, 86, 69, 82, 65, 71, 69, 49, 57, 32, 83, 85, 77, 73, 70, 50, 50, 32, 67, 79, 85, 78, 84, 73, 70, 50, 50, 32, 83, 85, 77, 80, 82, 79, 68, 85, 67, 84, 50, 50, 32, 76, 69, 78, 49, 49, 32, 76, 69, 70, 84, 50, 50, 32, 82, 73, 71, 72, 84, 50, 50, 32, 77, 73, 68, 51, 51, 32, 85, 80, 80, 69, 82, 49, 49, 32, 76, 79, 87, 69, 82, 49, 49, 32, 84, 82, 73, 77, 49, 49, 32, 67, 79, 78, 67, 65, 84, 49, 57, 32, 82, 69, 80, 84, 50, 50, 32, 70, 73, 78, 68, 50, 50, 32, 83, 85, 66, 83, 84, 73, 84, 85, 84, 69, 51, 51, 32, 69, 88, 65, 67, 84, 50, 50, 32, 86, 65, 76, 85, 69, 49, 49, 32, 78, 79, 84, 49, 49, 32, 73, 83, 78, 85, 77, 66, 69, 82, 49, 49, 32, 73, 83, 84, 69, 88, 84, 49, 49, 32, 73, 83, 66, 76, 65, 78, 75, 49, 49, 32, 73, 83, 69, 82, 82, 79, 82, 49, 49, 32, 73, 83, 76, 79, 71, 73, 67, 65, 76, 49, 49, 32, 78, 65, 48, 48, 32, 73, 78, 68, 69, 88, 51, 51, 32, 77, 65, 84, 67, 72, 50, 50, 32, 86, 76, 79, 79, 75, 85, 80, 51, 51, 32, 82, 79, 87, 83, 49, 49, 32, 67, 79, 76, 85, 77, 78, 83, 49, 49]
def value_Compare (x0 : V) (x1 : V) : Option (Int) :=
 obind (value_like x0 x1) fun y7_5 =>
 obind (value_like x1 x0) fun y10_6 =>
 bindv (!decide (y7_5.k = y10_6.k) : Bool) fun z15_8 =>
 if z15_8 = true then (
  obind (value_rank y7_5) fun y17_10 =>
  obind (value_rank y10_6) fun y19_11 =>
  bindv (IntKind.wrap .i64 (y17_10 - y19_11) : Int) fun z20_12 =>
  some z20_12
 ) else (
  bindv (decide (y7_5.k = 2) : Bool) fun z24_14 =>
  if z24_14 = true then (
   bindv (Lib.compareBytes y7_5.s y10_6.s : Int) fun z29_17 =>
   some z29_17
  ) else (
   bindv (decide (y7_5.n < y10_6.n) : Bool) fun z35_18 =>
   if z35_18 = true then (
    some (-1)
   ) else (
    bindv (decide (y10_6.n < y7_5.n) : Bool) fun z41_20 =>
    if z41_20 = true then (
     some 1
    ) else (
     some 0
    )
   )
  )
 )
def tree_Name (x0 : Int) : Option ((List UInt8)) :=
 chk (text1.length < 4294967281 ∧ (text1.all fun b => decide (b.toNat < 128)) = true) <|
 bindv (Lib.fields text1 : (List (List UInt8))) fun z4_3 =>
 bindv (decide (x0 < 1) : Bool) fun z6_6 =>
 bindv (decide ((z4_3.length : Int) < x0) : Bool) fun z11_7 =>
 bindv (z6_6 || z11_7 : Bool) fun z12_8 =>
 if z12_8 = true then (
  some []
 ) else (
  bindv (IntKind.wrap .i64 (x0 - 1) : Int) fun z15_10 =>
  chk ((0 : Int) ≤ z15_10 ∧ z15_10 < (z4_3.length : Int)) <|
  bindv (gel z4_3 z15_10 : List UInt8) fun z16_12 =>
  bindv (IntKind.wrap .i64 (x0 - 1) : Int) fun z20_13 =>
  chk ((0 : Int) ≤ z20_13 ∧ z20_13 < (z4_3.length : Int)) <|
  bindv (gel z4_3 z20_13 : List UInt8) fun z21_15 =>
  bindv (IntKind.wrap .i64 ((z21_15.length : Int) - 2) : Int) fun z24_16 =>
  chk ((0 : Int) ≤ z24_16 ∧ z24_16 ≤ (z16_12.length : Int)) <|
  bindv (cutS z16_12 0 z24_16 : List UInt8) fun z25_18 =>
  some z25_18
 )
def tree_Fits (x0 : Int) (x1 : Int) : Option (Bool) :=
 chk (text1.length < 4294967281 ∧ (text1.all fun b => decide (b.toNat < 128)) = true) <|
 bindv (Lib.fields text1 : (List (List UInt8))) fun z7_3 =>
 bindv (decide (x0 < 1) : Bool) fun z9_6 =>
 bindv (decide ((z7_3.length : Int) < x0) : Bool) fun z14_7 =>
 bindv (z9_6 || z14_7 : Bool) fun z15_8 =>
 if z15_8 = true then (
  some false
 ) else (
  bindv (IntKind.wrap .i64 (x0 - 1) : Int) fun z18_10 =>
  chk ((0 : Int) ≤ z18_10 ∧ z18_10 < (z7_3.length : Int)) <|
  bindv (gel z7_3 z18_10 : List UInt8) fun z19_12 =>
  bindv (IntKind.wrap .i64 ((z19_12.length : Int) - 2) : Int) fun z25_13 =>
  chk ((0 : Int) ≤ z25_13 ∧ z25_13 < (z19_12.length : Int)) <|
  bindv (bt z19_12 z25_13 : Int) fun z26_15 =>
  bindv (IntKind.wrap .u8 (z26_15 - 48) : Int) fun z27_16 =>
  bindv (IntKind.wrap .i64 z27_16 : Int) fun z28_17 =>
  bindv (decide (z28_17 ≤ x1) : Bool) fun z29_18 =>
  bindv (IntKind.wrap .i64 ((z19_12.length : Int) - 1) : Int) fun z35_19 =>
  chk (z29_18 = true → (0 : Int) ≤ z35_19 ∧ z35_19 < (z19_12.length : Int)) <|
  bindv (bt z19_12 z35_19 : Int) fun z36_21 =>
  bindv (IntKind.wrap .u8 (z36_21 - 48) : Int) fun z37_22 =>
  bindv (IntKind.wrap .i64 z37_22 : Int) fun z38_23 =>
  bindv (decide (x1 ≤ z38_23) : Bool) fun z39_24 =>
  bindv (z29_18 && z39_24 : Bool) fun z40_25 =>
  some z40_25
 )
def num_Of (x0 : Int) : Option (Int × Bool) :=
 bindv (decide (9223372036854 < x0) : Bool) fun z5_2 =>
 bindv (decide (x0 < (-9223372036854)) : Bool) fun z8_3 =>
 bindv (z5_2 || z8_3 : Bool) fun z9_4 =>
 if z9_4 = true then (
  some (0, false)
 ) else (
  bindv (IntKind.wrap .i64 (x0 * 1000000) : Int) fun z11_6 =>
  some (z11_6, true)
 )
def num_Floor (x0 : Int) : Option (Int × Bool) :=
 bindv (Int.tmod x0 1000000 : Int) fun z6_1 =>
 bindv ((fun s3 =>
  obind (num_Sub x0 s3) fun y13_4 =>
  some (y13_4.1, y13_4.2)
  ) : (Int) → Option (Int × Bool)) fun J3 =>
 bindv (decide (z6_1 < 0) : Bool) fun z8_5 =>
 if z8_5 = true then (
  bindv (IntKind.wrap .i64 (z6_1 + 1000000) : Int) fun z10_7 =>
  J3 z10_7
 ) else (
  J3 z6_1
 )
def maths_gcd (x0 : Int) (x1 : Int) : Option (Int) :=
 bindv ((fun s2 =>
  some s2
  ) : (Int) → Option (Int)) fun J2 =>
 bindv (fun (n3 : (Int × Int) → Option (Int)) (s3 : Int × Int) =>
  bindv (!decide (s3.2 = 0) : Bool) fun z6_6 =>
  if z6_6 = true then (
   chk (s3.2 ≠ 0) <|
   bindv (Int.tmod s3.1 s3.2 : Int) fun z10_10 =>
   n3 (s3.2, z10_10)
  ) else (
   J2 s3.1
  )
  ) fun B3 =>
 loopF B3 KK (x0, x1)
def maths_whole (x0 : List (Int)) : Option ((List (Int))) :=
 bindv ((fun s2 =>
  some s2
  ) : ((List (Int))) → Option ((List (Int)))) fun J2 =>
 bindv (fun (n5 : (Int × (List (Int))) → Option ((List (Int)))) (s5 : Int × (List (Int))) =>
  bindv (decide (s5.1 < (x0.length : Int)) : Bool) fun z9_8 =>
  if z9_8 = true then (
   chk ((0 : Int) ≤ s5.1 ∧ s5.1 < (x0.length : Int)) <|
   bindv (gel x0 s5.1 : Int) fun z10_13 =>
   bindv (IntKind.wrap .i64 (Int.tdiv z10_13 1000000) : Int) fun z14_14 =>
   chk (s5.2.length + [z14_14].length ≤ 9223372036854775807 ∧ (s5.2.length + [z14_14].length) * 8 ≤ 140737488355328) <|
   bindv (s5.2 ++ [z14_14] : List (Int)) fun z16_18 =>
   bindv (IntKind.wrap .i64 (s5.1 + 1) : Int) fun z17_19 =>
   n5 (z17_19, z16_18)
  ) else (
   J2 s5.2
  )
  ) fun B5 =>
 loopF B5 KK (0, ([] : List (Int)))
def maths_back (x0 : Int) : Option (V) :=
 obind (num_Of x0) fun y4_2 =>
 obind (value_Made y4_2.1 y4_2.2) fun y7_3 =>
 some y7_3
def maths_away (x0 : Int) (x1 : Bool) : Option (V) :=
 bindv (IntKind.wrap .i64 (Int.tdiv x0 1000000) : Int) fun z8_2 =>
 bindv ((fun s4 =>
  bindv ((fun s6 =>
   bindv ((fun s8 =>
    bindv (IntKind.wrap .i64 (s4.2 * s8) : Int) fun z27_9 =>
    obind (maths_back z27_9) fun y28_10 =>
    some y28_10
    ) : (Int) → Option (V)) fun J8 =>
   bindv (Int.tmod s6 2 : Int) fun z19_11 =>
   bindv (decide (z19_11 = 1) : Bool) fun z20_12 =>
   bindv (!(z20_12 == x1) : Bool) fun z22_13 =>
   if z22_13 = true then (
    bindv (IntKind.wrap .i64 (s6 + 1) : Int) fun z24_15 =>
    J8 z24_15
   ) else (
    J8 s6
   )
   ) : (Int) → Option (V)) fun J6 =>
  bindv (Int.tmod x0 1000000 : Int) fun z14_16 =>
  bindv (!decide (z14_16 = 0) : Bool) fun z15_17 =>
  if z15_17 = true then (
   bindv (IntKind.wrap .i64 (s4.1 + 1) : Int) fun z17_19 =>
   J6 z17_19
  ) else (
   J6 s4.1
  )
  ) : (Int × Int) → Option (V)) fun J4 =>
 bindv (decide (x0 < 0) : Bool) fun z10_20 =>
 if z10_20 = true then (
  bindv (IntKind.wrap .i64 (-z8_2) : Int) fun z12_22 =>
  J4 (z12_22, (-1))
 ) else (
  J4 (z8_2, 1)
 )
def maths_round (x0 : Int) (x1 : Int) : Option (V) :=
 bindv ((fun s3 =>
  chk (s3 ≠ 0) <|
  bindv (IntKind.wrap .i64 (Int.tdiv x0 s3) : Int) fun z17_5 =>
  chk (s3 ≠ 0) <|
  bindv (Int.tmod x0 s3 : Int) fun z20_7 =>
  bindv ((fun s9 =>
   bindv ((fun s11 =>
    chk (s3 ≠ 0) <|
    bindv (IntKind.wrap .i64 (Int.tdiv 9223372036854775807 s3) : Int) fun z38_14 =>
    bindv (decide (z38_14 < s11) : Bool) fun z39_15 =>
    chk ((!z39_15) = true → s3 ≠ 0) <|
    bindv (IntKind.wrap .i64 (Int.tdiv (-9223372036854775807) s3) : Int) fun z43_17 =>
    bindv (decide (s11 < z43_17) : Bool) fun z44_18 =>
    bindv (z39_15 || z44_18 : Bool) fun z45_19 =>
    if z45_19 = true then (
     obind (value_Fail (5 : Int)) fun y46_21 =>
     some y46_21
    ) else (
     bindv (IntKind.wrap .i64 (s11 * s3) : Int) fun z49_22 =>
     obind (value_Num z49_22) fun y50_23 =>
     some y50_23
    )
    ) : (Int) → Option (V)) fun J11 =>
   bindv (IntKind.wrap .i64 (s3 - s9) : Int) fun z28_24 =>
   bindv (decide (z28_24 ≤ s9) : Bool) fun z29_25 =>
   if z29_25 = true then (
    bindv (decide (x0 < 0) : Bool) fun z31_27 =>
    if z31_27 = true then (
     bindv (IntKind.wrap .i64 (z17_5 - 1) : Int) fun z33_29 =>
     J11 z33_29
    ) else (
     bindv (IntKind.wrap .i64 (z17_5 + 1) : Int) fun z35_30 =>
     J11 z35_30
    )
   ) else (
    J11 z17_5
   )
   ) : (Int) → Option (V)) fun J9 =>
  bindv (decide (z20_7 < 0) : Bool) fun z22_31 =>
  if z22_31 = true then (
   bindv (IntKind.wrap .i64 (-z20_7) : Int) fun z24_33 =>
   J9 z24_33
  ) else (
   J9 z20_7
  )
  ) : (Int) → Option (V)) fun J3 =>
 bindv (IntKind.wrap .i64 (6 - x1) : Int) fun z9_34 =>
 bindv (fun (n36 : (Int × Int) → Option (V)) (s36 : Int × Int) =>
  bindv (decide (s36.2 < z9_34) : Bool) fun z11_38 =>
  if z11_38 = true then (
   bindv (IntKind.wrap .i64 (s36.1 * 10) : Int) fun z13_42 =>
   bindv (IntKind.wrap .i64 (s36.2 + 1) : Int) fun z14_43 =>
   n36 (z13_42, z14_43)
  ) else (
   J3 s36.1
  )
  ) fun B36 =>
 loopF B36 KK (1, 0)
def lists_numbers (x0 : List (V)) : Option ((List (Int))) :=
 bindv ((fun s2 =>
  some s2
  ) : ((List (Int))) → Option ((List (Int)))) fun J2 =>
 bindv (fun (n5 : (Int × (List (Int))) → Option ((List (Int)))) (s5 : Int × (List (Int))) =>
  bindv (decide (s5.1 < (x0.length : Int)) : Bool) fun z9_8 =>
  if z9_8 = true then (
   chk ((0 : Int) ≤ s5.1 ∧ s5.1 < (x0.length : Int)) <|
   bindv (gel x0 s5.1 : V) fun z10_13 =>
   bindv (decide (z10_13.k = 1) : Bool) fun z14_15 =>
   if z14_15 = true then (
    chk (s5.2.length + [z10_13.n].length ≤ 9223372036854775807 ∧ (s5.2.length + [z10_13.n].length) * 8 ≤ 140737488355328) <|
    bindv (s5.2 ++ [z10_13.n] : List (Int)) fun z19_20 =>
    bindv (IntKind.wrap .i64 (s5.1 + 1) : Int) fun z20_21 =>
    n5 (z20_21, z19_20)
   ) else (
    bindv (IntKind.wrap .i64 (s5.1 + 1) : Int) fun z20_22 =>
    n5 (z20_22, s5.2)
   )
  ) else (
   J2 s5.2
  )
  ) fun B5 =>
 loopF B5 KK (0, ([] : List (Int)))
def lists_Sum (x0 : List (V)) : Option (V) :=
 bindv ((fun s3 =>
  obind (value_Made s3.1 s3.2) fun y24_4 =>
  some y24_4
  ) : (Int × Bool) → Option (V)) fun J3 =>
 obind (lists_numbers x0) fun y8_5 =>
 bindv (fun (n8 : (Int × Bool × Int) → Option (V)) (s8 : Int × Bool × Int) =>
  bindv (decide (s8.2.2 < (y8_5.length : Int)) : Bool) fun z11_10 =>
  if z11_10 = true then (
   chk ((0 : Int) ≤ s8.2.2 ∧ s8.2.2 < (y8_5.length : Int)) <|
   bindv (gel y8_5 s8.2.2 : Int) fun z12_15 =>
   if s8.2.1 = true then (
    obind (num_Add s8.1 z12_15) fun y18_17 =>
    bindv (IntKind.wrap .i64 (s8.2.2 + 1) : Int) fun z21_18 =>
    n8 (y18_17.1, y18_17.2, z21_18)
   ) else (
    bindv (IntKind.wrap .i64 (s8.2.2 + 1) : Int) fun z21_19 =>
    n8 (s8.1, s8.2.1, z21_19)
   )
  ) else (
   J3 (s8.1, s8.2.1)
  )
  ) fun B8 =>
 loopF B8 KK (0, true, 0)
def lists_Extreme (x0 : Bool) (x1 : List (V)) : Option (V) :=
 obind (lists_numbers x1) fun y10_2 =>
 bindv (decide ((y10_2.length : Int) = 0) : Bool) fun z13_5 =>
 if z13_5 = true then (
  obind (value_Num (0 : Int)) fun y14_7 =>
  some y14_7
 ) else (
  chk ((0 : Int) ≤ 0 ∧ 0 < (y10_2.length : Int)) <|
  bindv (gel y10_2 0 : Int) fun z16_9 =>
  bindv ((fun s11 =>
   obind (value_Num s11) fun y37_12 =>
   some y37_12
   ) : (Int) → Option (V)) fun J11 =>
  bindv (fun (n14 : (Int × Int) → Option (V)) (s14 : Int × Int) =>
   bindv (decide (s14.2 < (y10_2.length : Int)) : Bool) fun z21_16 =>
   if z21_16 = true then (
    chk ((0 : Int) ≤ s14.2 ∧ s14.2 < (y10_2.length : Int)) <|
    bindv (gel y10_2 s14.2 : Int) fun z22_21 =>
    bindv (decide (s14.1 < z22_21) : Bool) fun z26_22 =>
    bindv (z26_22 == x0 : Bool) fun z28_23 =>
    bindv (!decide (z22_21 = s14.1) : Bool) fun z32_24 =>
    bindv (z28_23 && z32_24 : Bool) fun z33_25 =>
    if z33_25 = true then (
     bindv (IntKind.wrap .i64 (s14.2 + 1) : Int) fun z35_27 =>
     n14 (z22_21, z35_27)
    ) else (
     bindv (IntKind.wrap .i64 (s14.2 + 1) : Int) fun z35_28 =>
     n14 (s14.1, z35_28)
    )
   ) else (
    J11 s14.1
   )
   ) fun B14 =>
  loopF B14 KK (z16_9, 0)
 )
def lists_equal (x0 : V) (x1 : V) : Option (Bool) :=
 bindv (decide (x0.k = x1.k) : Bool) fun z9_3 =>
 bindv (decide (x0.n = x1.n) : Bool) fun z15_4 =>
 bindv (z9_3 && z15_4 : Bool) fun z16_5 =>
 bindv (decide (x0.s = x1.s) : Bool) fun z22_6 =>
 bindv (z16_5 && z22_6 : Bool) fun z23_7 =>
 some z23_7
def lists_Count (x0 : Int) (x1 : Bool) (x2 : List (V)) : Option (V) :=
 bindv ((fun s3 =>
  obind (num_Of s3) fun y26_4 =>
  obind (value_Made y26_4.1 y26_4.2) fun y29_5 =>
  some y29_5
  ) : (Int) → Option (V)) fun J3 =>
 bindv (fun (n7 : (Int × Int) → Option (V)) (s7 : Int × Int) =>
  bindv (decide (s7.2 < (x2.length : Int)) : Bool) fun z13_9 =>
  if z13_9 = true then (
   chk ((0 : Int) ≤ s7.2 ∧ s7.2 < (x2.length : Int)) <|
   bindv (gel x2 s7.2 : V) fun z14_14 =>
   bindv (decide (z14_14.k = x0) : Bool) fun z19_16 =>
   bindv (z19_16 == x1 : Bool) fun z21_17 =>
   if z21_17 = true then (
    bindv (IntKind.wrap .i64 (s7.1 + 1) : Int) fun z23_19 =>
    bindv (IntKind.wrap .i64 (s7.2 + 1) : Int) fun z24_20 =>
    n7 (z23_19, z24_20)
   ) else (
    bindv (IntKind.wrap .i64 (s7.2 + 1) : Int) fun z24_21 =>
    n7 (s7.1, z24_21)
   )
  ) else (
   J3 s7.1
  )
  ) fun B7 =>
 loopF B7 KK (0, 0)
def lists_CountIf (x0 : V) (x1 : List (V)) : Option (V) :=
 bindv ((fun s4 =>
  obind (num_Of s4) fun y21_5 =>
  obind (value_Made y21_5.1 y21_5.2) fun y24_6 =>
  some y24_6
  ) : (Int) → Option (V)) fun J4 =>
 bindv (fun (n8 : (Int × Int) → Option (V)) (s8 : Int × Int) =>
  bindv (decide (s8.2 < (x1.length : Int)) : Bool) fun z11_10 =>
  if z11_10 = true then (
   chk ((0 : Int) ≤ s8.2 ∧ s8.2 < (x1.length : Int)) <|
   bindv (gel x1 s8.2 : V) fun z12_15 =>
   obind (lists_equal z12_15 x0) fun y16_17 =>
   if y16_17 = true then (
    bindv (IntKind.wrap .i64 (s8.1 + 1) : Int) fun z18_19 =>
    bindv (IntKind.wrap .i64 (s8.2 + 1) : Int) fun z19_20 =>
    n8 (z18_19, z19_20)
   ) else (
    bindv (IntKind.wrap .i64 (s8.2 + 1) : Int) fun z19_21 =>
    n8 (s8.1, z19_21)
   )
  ) else (
   J4 s8.1
  )
  ) fun B8 =>
 loopF B8 KK (0, 0)
def lists_SumIf (x0 : V) (x1 : List (V)) : Option (V) :=
 bindv ((fun s4 =>
  obind (lists_Sum s4) fun y23_6 =>
  some y23_6
  ) : ((List (V))) → Option (V)) fun J4 =>
 bindv (fun (n8 : (Int × (List (V))) → Option (V)) (s8 : Int × (List (V))) =>
  bindv (decide (s8.1 < (x1.length : Int)) : Bool) fun z11_11 =>
  if z11_11 = true then (
   chk ((0 : Int) ≤ s8.1 ∧ s8.1 < (x1.length : Int)) <|
   bindv (gel x1 s8.1 : V) fun z12_16 =>
   obind (lists_equal z12_16 x0) fun y16_18 =>
   if y16_18 = true then (
    chk (s8.2.length + [z12_16].length ≤ 9223372036854775807 ∧ (s8.2.length + [z12_16].length) * 32 ≤ 140737488355328) <|
    bindv (s8.2 ++ [z12_16] : List (V)) fun z20_23 =>
    bindv (IntKind.wrap .i64 (s8.1 + 1) : Int) fun z21_24 =>
    n8 (z21_24, z20_23)
   ) else (
    bindv (IntKind.wrap .i64 (s8.1 + 1) : Int) fun z21_25 =>
    n8 (z21_25, s8.2)
   )
  ) else (
   J4 s8.2
  )
  ) fun B8 =>
 loopF B8 KK (0, ([] : List (V)))
def lists_Match (x0 : V) (x1 : List (V)) : Option (V) :=
 bindv ((fun s4 =>
  obind (value_Fail (6 : Int)) fun y24_5 =>
  some y24_5
  ) : (Int × Int × (List UInt8)) → Option (V)) fun J4 =>
 bindv (fun (n7 : (Int × Int × Int × (List UInt8)) → Option (V)) (s7 : Int × Int × Int × (List UInt8)) =>
  bindv (decide (s7.1 < (x1.length : Int)) : Bool) fun z10_9 =>
  if z10_9 = true then (
   chk ((0 : Int) ≤ s7.1 ∧ s7.1 < (x1.length : Int)) <|
   bindv (gel x1 s7.1 : V) fun z12_14 =>
   obind (lists_equal z12_14 x0) fun y16_16 =>
   if y16_16 = true then (
    bindv (IntKind.wrap .i64 (s7.1 + 1) : Int) fun z18_18 =>
    obind (num_Of z18_18) fun y19_19 =>
    obind (value_Made y19_19.1 y19_19.2) fun y22_20 =>
    some y22_20
   ) else (
    bindv (IntKind.wrap .i64 (s7.1 + 1) : Int) fun z23_21 =>
    n7 (z23_21, s7.2.1, s7.2.2.1, s7.2.2.2)
   )
  ) else (
   J4 (s7.2.1, s7.2.2.1, s7.2.2.2)
  )
  ) fun B7 =>
 loopF B7 KK (0, 0, 0, [])
def lists_Index (x0 : Int) (x1 : Int) (x2 : Int) (x3 : List (V)) : Option (V) :=
 bindv (decide (x0 < 1) : Bool) fun z10_3 =>
 bindv (decide (x1 < 1) : Bool) fun z13_4 =>
 bindv (z10_3 || z13_4 : Bool) fun z14_5 =>
 bindv (decide (x2 < 1) : Bool) fun z17_6 =>
 bindv (z14_5 || z17_6 : Bool) fun z18_7 =>
 bindv (decide (x0 < x2) : Bool) fun z22_8 =>
 bindv (z18_7 || z22_8 : Bool) fun z23_9 =>
 chk ((!z23_9) = true → x0 ≠ 0) <|
 bindv (IntKind.wrap .i64 (Int.tdiv (x3.length : Int) x0) : Int) fun z29_11 =>
 bindv (decide (z29_11 < x1) : Bool) fun z30_12 =>
 bindv (z23_9 || z30_12 : Bool) fun z31_13 =>
 if z31_13 = true then (
  obind (value_Fail (3 : Int)) fun y32_15 =>
  some y32_15
 ) else (
  bindv (IntKind.wrap .i64 (x1 - 1) : Int) fun z35_16 =>
  bindv (IntKind.wrap .i64 (z35_16 * x0) : Int) fun z37_17 =>
  bindv (IntKind.wrap .i64 (x2 - 1) : Int) fun z39_18 =>
  bindv (IntKind.wrap .i64 (z37_17 + z39_18) : Int) fun z40_19 =>
  chk ((0 : Int) ≤ z40_19 ∧ z40_19 < (x3.length : Int)) <|
  bindv (gel x3 z40_19 : V) fun z41_21 =>
  some z41_21
 )
def lists_VLookup (x0 : V) (x1 : Int) (x2 : Int) (x3 : List (V)) : Option (V) :=
 bindv (decide (x1 < 1) : Bool) fun z11_4 =>
 bindv (decide (x2 < 1) : Bool) fun z14_5 =>
 bindv (z11_4 || z14_5 : Bool) fun z15_6 =>
 bindv (decide (x1 < x2) : Bool) fun z19_7 =>
 bindv (z15_6 || z19_7 : Bool) fun z20_8 =>
 if z20_8 = true then (
  obind (value_Fail (3 : Int)) fun y21_10 =>
  some y21_10
 ) else (
  bindv ((fun s12 =>
   obind (value_Fail (6 : Int)) fun y44_13 =>
   some y44_13
   ) : (Int × Int × (List UInt8)) → Option (V)) fun J12 =>
  bindv (fun (n15 : (Int × Int × Int × (List UInt8)) → Option (V)) (s15 : Int × Int × Int × (List UInt8)) =>
   bindv (IntKind.wrap .i64 (s15.1 + x1) : Int) fun z24_18 =>
   bindv (decide (z24_18 ≤ (x3.length : Int)) : Bool) fun z27_19 =>
   if z27_19 = true then (
    chk ((0 : Int) ≤ s15.1 ∧ s15.1 < (x3.length : Int)) <|
    bindv (gel x3 s15.1 : V) fun z33_23 =>
    obind (lists_equal z33_23 x0) fun y36_24 =>
    if y36_24 = true then (
     bindv (IntKind.wrap .i64 (s15.1 + x2) : Int) fun z40_26 =>
     bindv (IntKind.wrap .i64 (z40_26 - 1) : Int) fun z41_27 =>
     chk ((0 : Int) ≤ z41_27 ∧ z41_27 < (x3.length : Int)) <|
     bindv (gel x3 z41_27 : V) fun z42_29 =>
     some z42_29
    ) else (
     bindv (IntKind.wrap .i64 (s15.1 + x1) : Int) fun z30_30 =>
     n15 (z30_30, s15.2.1, s15.2.2.1, s15.2.2.2)
    )
   ) else (
    J12 (s15.2.1, s15.2.2.1, s15.2.2.2)
   )
   ) fun B15 =>
  loopF B15 KK (0, 0, 0, [])
 )
def texts_trimmed (x0 : List UInt8) : Option ((List UInt8)) :=
 bindv ((fun s2 =>
  some s2
  ) : ((List UInt8)) → Option ((List UInt8))) fun J2 =>
 bindv (fun (n4 : ((List UInt8) × Bool × Int) → Option ((List UInt8))) (s4 : (List UInt8) × Bool × Int) =>
  bindv (decide (s4.2.2 < (x0.length : Int)) : Bool) fun z9_6 =>
  if z9_6 = true then (
   chk ((0 : Int) ≤ s4.2.2 ∧ s4.2.2 < (x0.length : Int)) <|
   bindv (bt x0 s4.2.2 : Int) fun z13_12 =>
   bindv (decide (z13_12 = 32) : Bool) fun z14_13 =>
   if z14_13 = true then (
    bindv (!decide (s4.1 = []) : Bool) fun z16_15 =>
    bindv (IntKind.wrap .i64 (s4.2.2 + 1) : Int) fun z27_16 =>
    n4 (s4.1, z16_15, z27_16)
   ) else (
    bindv ((fun s18 =>
     bindv (IntKind.wrap .i64 (s4.2.2 + 1) : Int) fun z24_19 =>
     chk ((0 : Int) ≤ s4.2.2 ∧ s4.2.2 ≤ z24_19 ∧ z24_19 ≤ (x0.length : Int)) <|
     bindv (cutS x0 s4.2.2 z24_19 : List UInt8) fun z25_21 =>
     chk (s18.length + z25_21.length ≤ 9223372036854775807) <|
     bindv (s18 ++ z25_21 : List UInt8) fun z26_23 =>
     bindv (IntKind.wrap .i64 (s4.2.2 + 1) : Int) fun z27_24 =>
     n4 (z26_23, false, z27_24)
     ) : ((List UInt8)) → Option ((List UInt8))) fun J18 =>
    if s4.2.1 = true then (
     chk (s4.1.length + ([32] : List UInt8).length ≤ 9223372036854775807) <|
     bindv (s4.1 ++ ([32] : List UInt8) : List UInt8) fun z19_27 =>
     J18 z19_27
    ) else (
     J18 s4.1
    )
   )
  ) else (
   J2 s4.1
  )
  ) fun B4 =>
 loopF B4 KK ([], false, 0)
def texts_runes (x0 : List UInt8) : Option (Int) :=
 bindv ((fun s2 =>
  some s2
  ) : (Int) → Option (Int)) fun J2 =>
 bindv (fun (n5 : (Int × Nat) → Option (Int)) (s5 : Int × Nat) =>
  bindv (decide (s5.2 < x0.length) : Bool) fun z7_7 =>
  if z7_7 = true then (
   bindv (IntKind.wrap .i64 (s5.1 + 1) : Int) fun z9_11 =>
   n5 (z9_11, nextP x0 s5.2)
  ) else (
   J2 s5.1
  )
  ) fun B5 =>
 loopF B5 KK (0, 0)
def texts_count (x0 : Int) (x1 : List UInt8) : Option (Int × Bool) :=
 bindv (IntKind.wrap .i64 (Int.tdiv x0 1000000) : Int) fun z7_1 =>
 bindv (max z7_1 0 : Int) fun z9_2 =>
 bindv (min z9_2 (x1.length : Int) : Int) fun z12_3 =>
 bindv (decide (0 ≤ z7_1) : Bool) fun z14_4 =>
 some (z12_3, z14_4)
end Go.Sp
end
section
namespace Go.Sp
open Go.Stp Go.ValP
def bits_Div64 (x0 : Int) (x1 : Int) (x2 : Int) : Option (Int × Int) :=
 bindv ((fun s2 =>
  bindv ((fun s4 =>
   bindv (decide (x0 = 0) : Bool) fun z27_6 =>
   if z27_6 = true then (
    chk (x2 ≠ 0) <|
    bindv (IntKind.wrap .u64 (Int.tdiv x1 x2) : Int) fun z30_9 =>
    chk (x2 ≠ 0) <|
    bindv (Int.tmod x1 x2 : Int) fun z33_11 =>
    some (z30_9, z33_11)
   ) else (
    chk (0 ≤ x2 ∧ x2 ≤ 18446744073709551615) <|
    bindv (64 - (Lib.bitLen (Int.toNat x2) : Int) : Int) fun z35_14 =>
    bindv (IntKind.wrap .u64 z35_14 : Int) fun z36_15 =>
    chk ((0 : Int) ≤ z36_15) <|
    bindv (shlI .u64 x2 z36_15 : Int) fun z39_17 =>
    chk ((0 : Int) ≤ 32) <|
    bindv (shrI .u64 z39_17 32 : Int) fun z41_19 =>
    bindv (bits .and .u64 z39_17 4294967295 : Int) fun z43_20 =>
    chk ((0 : Int) ≤ z36_15) <|
    bindv (shlI .u64 x0 z36_15 : Int) fun z46_22 =>
    bindv (IntKind.wrap .u64 (64 - z36_15) : Int) fun z49_23 =>
    chk ((0 : Int) ≤ z49_23) <|
    bindv (shrI .u64 x1 z49_23 : Int) fun z50_25 =>
    bindv (bits .or .u64 z46_22 z50_25 : Int) fun z51_26 =>
    chk ((0 : Int) ≤ z36_15) <|
    bindv (shlI .u64 x1 z36_15 : Int) fun z54_28 =>
    chk ((0 : Int) ≤ 32) <|
    bindv (shrI .u64 z54_28 32 : Int) fun z56_30 =>
    bindv (bits .and .u64 z54_28 4294967295 : Int) fun z58_31 =>
    chk (z41_19 ≠ 0) <|
    bindv (IntKind.wrap .u64 (Int.tdiv z51_26 z41_19) : Int) fun z61_33 =>
    bindv (IntKind.wrap .u64 (z61_33 * z41_19) : Int) fun z65_34 =>
    bindv (IntKind.wrap .u64 (z51_26 - z65_34) : Int) fun z66_35 =>
    bindv ((fun s37 =>
     bindv (IntKind.wrap .u64 (z51_26 * 4294967296) : Int) fun z87_38 =>
     bindv (IntKind.wrap .u64 (z87_38 + z56_30) : Int) fun z89_39 =>
     bindv (IntKind.wrap .u64 (s37 * z39_17) : Int) fun z92_40 =>
     bindv (IntKind.wrap .u64 (z89_39 - z92_40) : Int) fun z93_41 =>
     chk (z41_19 ≠ 0) <|
     bindv (IntKind.wrap .u64 (Int.tdiv z93_41 z41_19) : Int) fun z96_43 =>
     bindv (IntKind.wrap .u64 (z96_43 * z41_19) : Int) fun z100_44 =>
     bindv (IntKind.wrap .u64 (z93_41 - z100_44) : Int) fun z101_45 =>
     bindv ((fun s47 =>
      bindv (IntKind.wrap .u64 (s37 * 4294967296) : Int) fun z122_48 =>
      bindv (IntKind.wrap .u64 (z122_48 + s47) : Int) fun z124_49 =>
      bindv (IntKind.wrap .u64 (z93_41 * 4294967296) : Int) fun z126_50 =>
      bindv (IntKind.wrap .u64 (z126_50 + z58_31) : Int) fun z128_51 =>
      bindv (IntKind.wrap .u64 (s47 * z39_17) : Int) fun z131_52 =>
      bindv (IntKind.wrap .u64 (z128_51 - z131_52) : Int) fun z132_53 =>
      chk ((0 : Int) ≤ z36_15) <|
      bindv (shrI .u64 z132_53 z36_15 : Int) fun z134_55 =>
      some (z124_49, z134_55)
      ) : (Int) → Option (Int × Int)) fun J47 =>
     bindv (fun (n56 : (Int × Int) → Option (Int × Int)) (s56 : Int × Int) =>
      bindv (decide (4294967296 ≤ s56.2) : Bool) fun z103_59 =>
      bindv (IntKind.wrap .u64 (s56.2 * z43_20) : Int) fun z107_60 =>
      bindv (IntKind.wrap .u64 (4294967296 * s56.1) : Int) fun z109_61 =>
      bindv (IntKind.wrap .u64 (z109_61 + z58_31) : Int) fun z111_62 =>
      bindv (decide (z111_62 < z107_60) : Bool) fun z112_63 =>
      bindv (z103_59 || z112_63 : Bool) fun z113_64 =>
      if z113_64 = true then (
       bindv (IntKind.wrap .u64 (s56.2 - 1) : Int) fun z115_67 =>
       bindv (IntKind.wrap .u64 (s56.1 + z41_19) : Int) fun z118_68 =>
       bindv (decide (4294967296 ≤ z118_68) : Bool) fun z120_69 =>
       if z120_69 = true then (
        J47 z115_67
       ) else (
        n56 (z118_68, z115_67)
       )
      ) else (
       J47 s56.2
      )
      ) fun B56 =>
     loopF B56 KK (z101_45, z96_43)
     ) : (Int) → Option (Int × Int)) fun J37 =>
    bindv (fun (n71 : (Int × Int) → Option (Int × Int)) (s71 : Int × Int) =>
     bindv (decide (4294967296 ≤ s71.1) : Bool) fun z68_74 =>
     bindv (IntKind.wrap .u64 (s71.1 * z43_20) : Int) fun z72_75 =>
     bindv (IntKind.wrap .u64 (4294967296 * s71.2) : Int) fun z74_76 =>
     bindv (IntKind.wrap .u64 (z74_76 + z56_30) : Int) fun z76_77 =>
     bindv (decide (z76_77 < z72_75) : Bool) fun z77_78 =>
     bindv (z68_74 || z77_78 : Bool) fun z78_79 =>
     if z78_79 = true then (
      bindv (IntKind.wrap .u64 (s71.1 - 1) : Int) fun z80_82 =>
      bindv (IntKind.wrap .u64 (s71.2 + z41_19) : Int) fun z83_83 =>
      bindv (decide (4294967296 ≤ z83_83) : Bool) fun z85_84 =>
      if z85_84 = true then (
       J37 z80_82
      ) else (
       n71 (z80_82, z83_83)
      )
     ) else (
      J37 s71.1
     )
     ) fun B71 =>
    loopF B71 KK (z61_33, z66_35)
   )
   ) : (Unit) → Option (Int × Int)) fun J4 =>
  bindv (decide (x2 ≤ x0) : Bool) fun z24_86 =>
  if z24_86 = true then (
   none
  ) else (
   J4 ()
  )
  ) : (Unit) → Option (Int × Int)) fun J2 =>
 bindv (decide (x2 = 0) : Bool) fun z20_88 =>
 if z20_88 = true then (
  none
 ) else (
  J2 ()
 )
def num_scaled (x0 : Int) (x1 : Int) (x2 : Int) : Option (Int × Bool) :=
 chk ((0 ≤ x0 ∧ x0 ≤ 18446744073709551615) ∧ 0 ≤ x1 ∧ x1 ≤ 18446744073709551615) <|
 bindv ((x0 * x1 / 18446744073709551616, x0 * x1 % 18446744073709551616) : Int × Int) fun z15_3 =>
 bindv (decide (x2 ≤ z15_3.1) : Bool) fun z20_5 =>
 if z20_5 = true then (
  some (0, false)
 ) else (
  obind (bits_Div64 z15_3.1 z15_3.2 x2) fun y25_7 =>
  bindv ((fun s9 =>
   bindv (!decide (s9 = 0) : Bool) fun z37_10 =>
   bindv (IntKind.wrap .u64 (x2 - y25_7.2) : Int) fun z42_11 =>
   bindv (decide (y25_7.2 < z42_11) : Bool) fun z43_12 =>
   bindv (z37_10 || z43_12 : Bool) fun z44_13 =>
   some (s9, z44_13)
   ) : (Int) → Option (Int × Bool)) fun J9 =>
  bindv (IntKind.wrap .u64 (x2 - y25_7.2) : Int) fun z31_14 =>
  bindv (decide (z31_14 ≤ y25_7.2) : Bool) fun z32_15 =>
  if z32_15 = true then (
   bindv (IntKind.wrap .u64 (y25_7.1 + 1) : Int) fun z34_17 =>
   J9 z34_17
  ) else (
   J9 y25_7.1
  )
 )
def num_Mul (x0 : Int) (x1 : Int) : Option (Int × Bool) :=
 obind (num_abs x0) fun y10_1 =>
 obind (num_abs x1) fun y12_2 =>
 obind (num_scaled y10_1 y12_2 (1000000 : Int)) fun y13_3 =>
 bindv (!y13_3.2 : Bool) fun z17_5 =>
 if z17_5 = true then (
  some (0, false)
 ) else (
  bindv (decide (x0 < 0) : Bool) fun z20_7 =>
  bindv (decide (x1 < 0) : Bool) fun z22_8 =>
  bindv (!(z20_7 == z22_8) : Bool) fun z23_9 =>
  obind (num_signed y13_3.1 z23_9) fun y24_10 =>
  some (y24_10.1, y24_10.2)
 )
def num_Quo (x0 : Int) (x1 : Int) : Option (Int × Bool) :=
 bindv (decide (x1 = 0) : Bool) fun z9_2 =>
 if z9_2 = true then (
  some (0, false)
 ) else (
  obind (num_abs x0) fun y12_4 =>
  obind (num_abs x1) fun y14_5 =>
  obind (num_scaled y12_4 (1000000 : Int) y14_5) fun y15_6 =>
  bindv (!y15_6.2 : Bool) fun z19_8 =>
  if z19_8 = true then (
   some (0, false)
  ) else (
   bindv (decide (x0 < 0) : Bool) fun z22_10 =>
   bindv (decide (x1 < 0) : Bool) fun z24_11 =>
   bindv (!(z22_10 == z24_11) : Bool) fun z25_12 =>
   obind (num_signed y15_6.1 z25_12) fun y26_13 =>
   some (y26_13.1, y26_13.2)
  )
 )
def num_Print (x0 : Int) : Option ((List UInt8)) :=
 obind (num_abs x0) fun y11_1 =>
 bindv ((fun s4 =>
  bindv ((fun s7 =>
   bindv ((fun s10 =>
    chk (bytesOk s10 = true) <|
    bindv (toB s10 : List UInt8) fun z73_13 =>
    some z73_13
    ) : ((List (Int))) → Option ((List UInt8))) fun J10 =>
   bindv (IntKind.wrap .i64 ((s7.length : Int) - 1) : Int) fun z50_14 =>
   bindv (fun (n16 : (Int × Int × (List (Int))) → Option ((List UInt8))) (s16 : Int × Int × (List (Int))) =>
    bindv (decide (s16.1 < s16.2.1) : Bool) fun z53_20 =>
    if z53_20 = true then (
     chk ((0 : Int) ≤ s16.1 ∧ s16.1 < (s16.2.2.length : Int)) <|
     chk ((0 : Int) ≤ s16.2.1 ∧ s16.2.1 < (s16.2.2.length : Int)) <|
     bindv ((s16.2.2.set (Int.toNat s16.1) (gel s16.2.2 s16.2.1)).set (Int.toNat s16.2.1) (gel s16.2.2 s16.1) : List Int) fun zrow_25 =>
     bindv (IntKind.wrap .i64 (s16.1 + 1) : Int) fun z55_28 =>
     bindv (IntKind.wrap .i64 (s16.2.1 - 1) : Int) fun z57_29 =>
     n16 (z55_28, z57_29, zrow_25)
    ) else (
     J10 s16.2.2
    )
    ) fun B16 =>
   loopF B16 KK (0, z50_14, s7)
   ) : ((List (Int))) → Option ((List UInt8))) fun J7 =>
  bindv (decide (x0 < 0) : Bool) fun z44_30 =>
  if z44_30 = true then (
   chk (s4.length + [45].length ≤ 9223372036854775807 ∧ (s4.length + [45].length) * 1 ≤ 140737488355328) <|
   bindv (s4 ++ [45] : List (Int)) fun z47_35 =>
   J7 z47_35
  ) else (
   J7 s4
  )
  ) : ((List (Int))) → Option ((List UInt8))) fun J4 =>
 bindv (fun (n37 : (Int × Bool × Int × (List (Int))) → Option ((List UInt8))) (s37 : Int × Bool × Int × (List (Int))) =>
  bindv (decide (s37.2.2.1 < 7) : Bool) fun z14_41 =>
  bindv (decide (0 < s37.1) : Bool) fun z17_42 =>
  bindv (z14_41 || z17_42 : Bool) fun z18_43 =>
  if z18_43 = true then (
   bindv ((fun s46 =>
    bindv (IntKind.wrap .i64 (s37.2.2.1 + 1) : Int) fun z20_48 =>
    n37 (s46.1, s46.2.1, z20_48, s46.2.2)
    ) : (Int × Bool × (List (Int))) → Option ((List UInt8))) fun J46 =>
   bindv ((fun s50 =>
    bindv (Int.tmod s37.1 10 : Int) fun z29_52 =>
    bindv (IntKind.wrap .u8 z29_52 : Int) fun z30_53 =>
    bindv (IntKind.wrap .u64 (Int.tdiv s37.1 10) : Int) fun z32_54 =>
    bindv (decide (z30_53 = 0) : Bool) fun z36_56 =>
    bindv (s50.1 && z36_56 : Bool) fun z37_57 =>
    if z37_57 = true then (
     J46 (z32_54, s50.1, s50.2)
    ) else (
     bindv (IntKind.wrap .u8 (48 + z30_53) : Int) fun z40_59 =>
     chk (s50.2.length + [z40_59].length ≤ 9223372036854775807 ∧ (s50.2.length + [z40_59].length) * 1 ≤ 140737488355328) <|
     bindv (s50.2 ++ [z40_59] : List (Int)) fun z42_63 =>
     J46 (z32_54, false, z42_63)
    )
    ) : (Bool × (List (Int))) → Option ((List UInt8))) fun J50 =>
   bindv (decide (s37.2.2.1 = 6) : Bool) fun z22_64 =>
   if z22_64 = true then (
    bindv (!s37.2.1 : Bool) fun z24_67 =>
    if z24_67 = true then (
     chk (s37.2.2.2.length + [46].length ≤ 9223372036854775807 ∧ (s37.2.2.2.length + [46].length) * 1 ≤ 140737488355328) <|
     bindv (s37.2.2.2 ++ [46] : List (Int)) fun z27_72 =>
     J50 (false, z27_72)
    ) else (
     J50 (false, s37.2.2.2)
    )
   ) else (
    J50 (s37.2.1, s37.2.2.2)
   )
  ) else (
   J4 s37.2.2.2
  )
  ) fun B37 =>
 loopF B37 KK (y11_1, true, 0, [])
def value_Show (x0 : V) : Option ((List UInt8)) :=
 bindv (decide (x0.k = 1) : Bool) fun z6_4 =>
 if z6_4 = true then (
  obind (num_Print x0.n) fun y9_6 =>
  some y9_6
 ) else (
  bindv (decide (x0.k = 2) : Bool) fun z11_7 =>
  if z11_7 = true then (
   some x0.s
  ) else (
   bindv (decide (x0.k = 3) : Bool) fun z15_9 =>
   if z15_9 = true then (
    bindv (decide (x0.n = 1) : Bool) fun z18_12 =>
    if z18_12 = true then (
     some ([84, 82, 85, 69] : List UInt8)
    ) else (
     some ([70, 65, 76, 83, 69] : List UInt8)
    )
   ) else (
    bindv (decide (x0.k = 4) : Bool) fun z20_14 =>
    if z20_14 = true then (
     obind (value_ErrorName x0.n) fun y23_16 =>
     some y23_16
    ) else (
     some []
    )
   )
  )
 )
def value_ToText (x0 : V) : Option (V) :=
 bindv (decide (x0.k = 4) : Bool) fun z5_4 =>
 if z5_4 = true then (
  some x0
 ) else (
  obind (value_Show x0) fun y8_6 =>
  obind (value_Text y8_6) fun y9_7 =>
  some y9_7
 )
def maths_power (x0 : Int) (x1 : Int) : Option (V) :=
 obind (num_Of (1 : Int)) fun y8_2 =>
 bindv ((fun s4 =>
  obind (value_Made s4.1 s4.2) fun y24_5 =>
  some y24_5
  ) : (Int × Bool) → Option (V)) fun J4 =>
 bindv (fun (n7 : (Int × Bool × Int) → Option (V)) (s7 : Int × Bool × Int) =>
  bindv (decide (s7.2.2 < x1) : Bool) fun z13_9 =>
  if z13_9 = true then (
   if s7.2.1 = true then (
    obind (num_Mul s7.1 x0) fun y18_14 =>
    bindv (IntKind.wrap .i64 (s7.2.2 + 1) : Int) fun z21_15 =>
    n7 (y18_14.1, y18_14.2, z21_15)
   ) else (
    bindv (IntKind.wrap .i64 (s7.2.2 + 1) : Int) fun z21_16 =>
    n7 (s7.1, s7.2.1, z21_16)
   )
  ) else (
   J4 (s7.1, s7.2.1)
  )
  ) fun B7 =>
 loopF B7 KK (y8_2.1, y8_2.2, 0)
def lists_Product (x0 : List (V)) : Option (V) :=
 obind (lists_numbers x0) fun y9_2 =>
 bindv (decide ((y9_2.length : Int) = 0) : Bool) fun z12_5 =>
 if z12_5 = true then (
  obind (value_Num (0 : Int)) fun y13_7 =>
  some y13_7
 ) else (
  chk ((0 : Int) ≤ 0 ∧ 0 < (y9_2.length : Int)) <|
  bindv (gel y9_2 0 : Int) fun z15_9 =>
  bindv ((fun s11 =>
   obind (value_Made s11.1 s11.2) fun y34_12 =>
   some y34_12
   ) : (Int × Bool) → Option (V)) fun J11 =>
  chk ((0 : Int) ≤ (1 : Int) ∧ (1 : Int) ≤ (y9_2.length : Int) ∧ (y9_2.length : Int) ≤ (y9_2.length : Int)) <|
  bindv (cutL y9_2 (1 : Int) (y9_2.length : Int) : List (Int)) fun z18_14 =>
  bindv (fun (n17 : (Int × Bool × Int) → Option (V)) (s17 : Int × Bool × Int) =>
   bindv (decide (s17.2.2 < (z18_14.length : Int)) : Bool) fun z21_19 =>
   if z21_19 = true then (
    chk ((0 : Int) ≤ s17.2.2 ∧ s17.2.2 < (z18_14.length : Int)) <|
    bindv (gel z18_14 s17.2.2 : Int) fun z22_24 =>
    if s17.2.1 = true then (
     obind (num_Mul s17.1 z22_24) fun y28_26 =>
     bindv (IntKind.wrap .i64 (s17.2.2 + 1) : Int) fun z31_27 =>
     n17 (y28_26.1, y28_26.2, z31_27)
    ) else (
     bindv (IntKind.wrap .i64 (s17.2.2 + 1) : Int) fun z31_28 =>
     n17 (s17.1, s17.2.1, z31_28)
    )
   ) else (
    J11 (s17.1, s17.2.1)
   )
   ) fun B17 =>
  loopF B17 KK (z15_9, true, 0)
 )
def lists_Average (x0 : List (V)) : Option (V) :=
 obind (lists_Sum x0) fun y6_2 =>
 obind (lists_numbers x0) fun y8_4 =>
 bindv (decide ((y8_4.length : Int) = 0) : Bool) fun z11_7 =>
 if z11_7 = true then (
  obind (value_Fail (1 : Int)) fun y12_9 =>
  some y12_9
 ) else (
  bindv (decide (y6_2.k = 4) : Bool) fun z15_11 =>
  if z15_11 = true then (
   some y6_2
  ) else (
   bindv (IntKind.wrap .i64 ((y8_4.length : Int) * 1000000) : Int) fun z20_13 =>
   obind (num_Quo y6_2.n z20_13) fun y21_14 =>
   obind (value_Made y21_14.1 y21_14.2) fun y24_15 =>
   some y24_15
  )
 )
def maths_One (x0 : List UInt8) (x1 : Int) : Option (V) :=
 bindv ((fun s3 =>
  obind (value_Fail (2 : Int)) fun y67_4 =>
  some y67_4
  ) : (Int × Int × (List UInt8)) → Option (V)) fun J3 =>
 bindv (decide (x0 = ([65, 66, 83] : List UInt8)) : Bool) fun z10_6 =>
 if z10_6 = true then (
  bindv (IntKind.wrap .i64 (-x1) : Int) fun z13_8 =>
  bindv (max x1 z13_8 : Int) fun z14_9 =>
  obind (value_Num z14_9) fun y15_10 =>
  some y15_10
 ) else (
  bindv (decide (x0 = ([83, 73, 71, 78] : List UInt8)) : Bool) fun z17_11 =>
  if z17_11 = true then (
   bindv (max x1 (-1) : Int) fun z19_13 =>
   bindv (min z19_13 1 : Int) fun z20_14 =>
   obind (maths_back z20_14) fun y21_15 =>
   some y21_15
  ) else (
   bindv (decide (x0 = ([73, 78, 84] : List UInt8)) : Bool) fun z23_16 =>
   if z23_16 = true then (
    obind (num_Floor x1) fun y25_18 =>
    obind (value_Made y25_18.1 y25_18.2) fun y28_19 =>
    some y28_19
   ) else (
    bindv (decide (x0 = ([84, 82, 85, 78, 67] : List UInt8)) : Bool) fun z30_20 =>
    if z30_20 = true then (
     bindv (Int.tmod x1 1000000 : Int) fun z33_22 =>
     bindv (IntKind.wrap .i64 (x1 - z33_22) : Int) fun z34_23 =>
     obind (value_Num z34_23) fun y35_24 =>
     some y35_24
    ) else (
     bindv ((fun s26 =>
      if s26 = true then (
       bindv (decide (x0 = ([79, 68, 68] : List UInt8)) : Bool) fun z41_28 =>
       obind (maths_away x1 z41_28) fun y42_29 =>
       some y42_29
      ) else (
       bindv (decide (x0 = ([70, 65, 67, 84] : List UInt8)) : Bool) fun z44_30 =>
       if z44_30 = true then (
        obind (maths_whole [x1]) fun y47_33 =>
        chk ((0 : Int) ≤ 0 ∧ 0 < (y47_33.length : Int)) <|
        bindv (gel y47_33 0 : Int) fun z48_36 =>
        bindv (decide (z48_36 < 0) : Bool) fun z51_38 =>
        bindv (decide (20 < z48_36) : Bool) fun z54_39 =>
        bindv (z51_38 || z54_39 : Bool) fun z55_40 =>
        if z55_40 = true then (
         obind (value_Fail (5 : Int)) fun y56_42 =>
         some y56_42
        ) else (
         bindv ((fun s44 =>
          obind (maths_back s44) fun y66_45 =>
          some y66_45
          ) : (Int) → Option (V)) fun J44 =>
         bindv (fun (n47 : (Int × Int) → Option (V)) (s47 : Int × Int) =>
          bindv (decide (s47.2 ≤ z48_36) : Bool) fun z59_50 =>
          if z59_50 = true then (
           bindv (IntKind.wrap .i64 (s47.1 * s47.2) : Int) fun z64_53 =>
           bindv (IntKind.wrap .i64 (s47.2 + 1) : Int) fun z61_54 =>
           n47 (z64_53, z61_54)
          ) else (
           J44 s47.1
          )
          ) fun B47 =>
         loopF B47 KK (1, 2)
        )
       ) else (
        J3 (0, 0, [])
       )
      )
      ) : (Bool) → Option (V)) fun J26 =>
     bindv (decide (x0 = ([69, 86, 69, 78] : List UInt8)) : Bool) fun z37_55 =>
     if z37_55 = true then (
      J26 z37_55
     ) else (
      bindv (decide (x0 = ([79, 68, 68] : List UInt8)) : Bool) fun z38_57 =>
      J26 z38_57
     )
    )
   )
  )
 )
def maths_Two (x0 : List UInt8) (x1 : Int) (x2 : Int) : Option (V) :=
 obind (maths_whole [x1, x2]) fun y14_3 =>
 bindv (decide (x0 = ([82, 79, 85, 78, 68] : List UInt8)) : Bool) fun z17_7 =>
 if z17_7 = true then (
  chk ((0 : Int) ≤ 1 ∧ 1 < (y14_3.length : Int)) <|
  bindv (gel y14_3 1 : Int) fun z19_11 =>
  bindv (decide (z19_11 < (-6)) : Bool) fun z21_12 =>
  chk ((!z21_12) = true → (0 : Int) ≤ 1 ∧ 1 < (y14_3.length : Int)) <|
  bindv (gel y14_3 1 : Int) fun z24_14 =>
  bindv (decide (6 < z24_14) : Bool) fun z26_15 =>
  bindv (z21_12 || z26_15 : Bool) fun z27_16 =>
  if z27_16 = true then (
   obind (value_Fail (5 : Int)) fun y28_18 =>
   some y28_18
  ) else (
   chk ((0 : Int) ≤ 1 ∧ 1 < (y14_3.length : Int)) <|
   bindv (gel y14_3 1 : Int) fun z31_20 =>
   obind (maths_round x1 z31_20) fun y33_21 =>
   some y33_21
  )
 ) else (
  bindv (decide (x0 = ([77, 79, 68] : List UInt8)) : Bool) fun z35_22 =>
  if z35_22 = true then (
   bindv (decide (x2 = 0) : Bool) fun z37_25 =>
   if z37_25 = true then (
    obind (value_Fail (1 : Int)) fun y38_27 =>
    some y38_27
   ) else (
    chk (x2 ≠ 0) <|
    bindv (Int.tmod x1 x2 : Int) fun z41_29 =>
    bindv ((fun s31 =>
     obind (value_Num s31) fun y55_32 =>
     some y55_32
     ) : (Int) → Option (V)) fun J31 =>
    bindv (!decide (z41_29 = 0) : Bool) fun z43_33 =>
    bindv (decide (z41_29 < 0) : Bool) fun z46_34 =>
    bindv (decide (x2 < 0) : Bool) fun z48_35 =>
    bindv (!(z46_34 == z48_35) : Bool) fun z49_36 =>
    bindv (z43_33 && z49_36 : Bool) fun z50_37 =>
    if z50_37 = true then (
     bindv (IntKind.wrap .i64 (z41_29 + x2) : Int) fun z53_39 =>
     J31 z53_39
    ) else (
     J31 z41_29
    )
   )
  ) else (
   bindv (decide (x0 = ([80, 79, 87, 69, 82] : List UInt8)) : Bool) fun z57_40 =>
   if z57_40 = true then (
    bindv (Int.tmod x2 1000000 : Int) fun z59_43 =>
    bindv (!decide (z59_43 = 0) : Bool) fun z60_44 =>
    chk ((!z60_44) = true → (0 : Int) ≤ 1 ∧ 1 < (y14_3.length : Int)) <|
    bindv (gel y14_3 1 : Int) fun z63_46 =>
    bindv (decide (z63_46 < 0) : Bool) fun z65_47 =>
    bindv (z60_44 || z65_47 : Bool) fun z66_48 =>
    chk ((!z66_48) = true → (0 : Int) ≤ 1 ∧ 1 < (y14_3.length : Int)) <|
    bindv (gel y14_3 1 : Int) fun z69_50 =>
    bindv (decide (64 < z69_50) : Bool) fun z71_51 =>
    bindv (z66_48 || z71_51 : Bool) fun z72_52 =>
    if z72_52 = true then (
     obind (value_Fail (5 : Int)) fun y73_54 =>
     some y73_54
    ) else (
     chk ((0 : Int) ≤ 1 ∧ 1 < (y14_3.length : Int)) <|
     bindv (gel y14_3 1 : Int) fun z76_56 =>
     obind (maths_power x1 z76_56) fun y78_57 =>
     some y78_57
    )
   ) else (
    bindv (decide (x0 = ([81, 85, 79, 84, 73, 69, 78, 84] : List UInt8)) : Bool) fun z80_58 =>
    if z80_58 = true then (
     bindv (decide (x2 = 0) : Bool) fun z82_61 =>
     if z82_61 = true then (
      obind (value_Fail (1 : Int)) fun y83_63 =>
      some y83_63
     ) else (
      chk (x2 ≠ 0) <|
      bindv (IntKind.wrap .i64 (Int.tdiv x1 x2) : Int) fun z86_65 =>
      obind (maths_back z86_65) fun y87_66 =>
      some y87_66
     )
    ) else (
     bindv ((fun s68 =>
      if s68 = true then (
       chk ((0 : Int) ≤ 0 ∧ 0 < (y14_3.length : Int)) <|
       bindv (gel y14_3 0 : Int) fun z92_72 =>
       bindv (decide (z92_72 < 0) : Bool) fun z94_73 =>
       chk ((!z94_73) = true → (0 : Int) ≤ 1 ∧ 1 < (y14_3.length : Int)) <|
       bindv (gel y14_3 1 : Int) fun z97_75 =>
       bindv (decide (z97_75 < 0) : Bool) fun z99_76 =>
       bindv (z94_73 || z99_76 : Bool) fun z100_77 =>
       if z100_77 = true then (
        obind (value_Fail (5 : Int)) fun y101_79 =>
        some y101_79
       ) else (
        chk ((0 : Int) ≤ 0 ∧ 0 < (y14_3.length : Int)) <|
        bindv (gel y14_3 0 : Int) fun z103_81 =>
        chk ((0 : Int) ≤ 1 ∧ 1 < (y14_3.length : Int)) <|
        bindv (gel y14_3 1 : Int) fun z106_83 =>
        obind (maths_gcd z103_81 z106_83) fun y108_84 =>
        bindv (decide (x0 = ([71, 67, 68] : List UInt8)) : Bool) fun z110_86 =>
        bindv (decide (y108_84 = 0) : Bool) fun z113_87 =>
        bindv (z110_86 || z113_87 : Bool) fun z114_88 =>
        if z114_88 = true then (
         obind (maths_back y108_84) fun y116_90 =>
         some y116_90
        ) else (
         chk ((0 : Int) ≤ 0 ∧ 0 < (y14_3.length : Int)) <|
         bindv (gel y14_3 0 : Int) fun z118_92 =>
         chk (y108_84 ≠ 0) <|
         bindv (IntKind.wrap .i64 (Int.tdiv z118_92 y108_84) : Int) fun z121_94 =>
         chk ((0 : Int) ≤ 1 ∧ 1 < (y14_3.length : Int)) <|
         bindv (gel y14_3 1 : Int) fun z123_97 =>
         bindv (!decide (z123_97 = 0) : Bool) fun z125_98 =>
         chk (z125_98 = true → (0 : Int) ≤ 1 ∧ 1 < (y14_3.length : Int)) <|
         bindv (gel y14_3 1 : Int) fun z129_100 =>
         chk (z125_98 = true → z129_100 ≠ 0) <|
         bindv (IntKind.wrap .i64 (Int.tdiv 9223372036854 z129_100) : Int) fun z131_102 =>
         bindv (decide (z131_102 < z121_94) : Bool) fun z132_103 =>
         bindv (z125_98 && z132_103 : Bool) fun z133_104 =>
         if z133_104 = true then (
          obind (value_Fail (5 : Int)) fun y134_106 =>
          some y134_106
         ) else (
          chk ((0 : Int) ≤ 1 ∧ 1 < (y14_3.length : Int)) <|
          bindv (gel y14_3 1 : Int) fun z137_108 =>
          bindv (IntKind.wrap .i64 (z121_94 * z137_108) : Int) fun z139_109 =>
          obind (maths_back z139_109) fun y140_110 =>
          some y140_110
         )
        )
       )
      ) else (
       obind (value_Fail (2 : Int)) fun y141_111 =>
       some y141_111
      )
      ) : (Bool) → Option (V)) fun J68 =>
     bindv (decide (x0 = ([71, 67, 68] : List UInt8)) : Bool) fun z89_112 =>
     if z89_112 = true then (
      J68 z89_112
     ) else (
      bindv (decide (x0 = ([76, 67, 77] : List UInt8)) : Bool) fun z90_114 =>
      J68 z90_114
     )
    )
   )
  )
 )
def texts_turned (x0 : List UInt8) (x1 : Int) (x2 : Int) : Option ((List UInt8)) :=
 bindv (ofB x0 : List Int) fun z11_2 =>
 bindv ((fun s4 =>
  chk (bytesOk s4 = true) <|
  bindv (toB s4 : List UInt8) fun z38_6 =>
  some z38_6
  ) : ((List Int)) → Option ((List UInt8))) fun J4 =>
 bindv (fun (n8 : (Int × (List Int)) → Option ((List UInt8))) (s8 : Int × (List Int)) =>
  bindv (decide (s8.1 < (z11_2.length : Int)) : Bool) fun z15_10 =>
  if z15_10 = true then (
   chk ((0 : Int) ≤ s8.1 ∧ s8.1 < (s8.2.length : Int)) <|
   bindv (gel s8.2 s8.1 : Int) fun z18_15 =>
   bindv (decide (x1 ≤ z18_15) : Bool) fun z21_16 =>
   bindv (IntKind.wrap .u8 (x1 + 25) : Int) fun z25_17 =>
   bindv (decide (z18_15 ≤ z25_17) : Bool) fun z26_18 =>
   bindv (z21_16 && z26_18 : Bool) fun z27_19 =>
   if z27_19 = true then (
    bindv (IntKind.wrap .u8 (z18_15 - x1) : Int) fun z32_21 =>
    bindv (IntKind.wrap .u8 (z32_21 + x2) : Int) fun z34_22 =>
    chk ((0 : Int) ≤ s8.1 ∧ s8.1 < (s8.2.length : Int)) <|
    bindv (s8.2.set (Int.toNat s8.1) z34_22 : List Int) fun zb0_24 =>
    bindv (IntKind.wrap .i64 (s8.1 + 1) : Int) fun z36_25 =>
    n8 (z36_25, zb0_24)
   ) else (
    bindv (IntKind.wrap .i64 (s8.1 + 1) : Int) fun z36_26 =>
    n8 (z36_26, s8.2)
   )
  ) else (
   J4 s8.2
  )
  ) fun B8 =>
 loopF B8 KK (0, z11_2)
def texts_One (x0 : List UInt8) (x1 : List UInt8) : Option (V) :=
 bindv (decide (x0 = ([76, 69, 78] : List UInt8)) : Bool) fun z7_4 =>
 if z7_4 = true then (
  obind (texts_runes x1) fun y9_6 =>
  obind (num_Of y9_6) fun y10_7 =>
  obind (value_Made y10_7.1 y10_7.2) fun y13_8 =>
  some y13_8
 ) else (
  bindv (decide (x0 = ([85, 80, 80, 69, 82] : List UInt8)) : Bool) fun z15_9 =>
  if z15_9 = true then (
   obind (texts_turned x1 (97 : Int) (65 : Int)) fun y17_11 =>
   obind (value_Text y17_11) fun y18_12 =>
   some y18_12
  ) else (
   bindv (decide (x0 = ([76, 79, 87, 69, 82] : List UInt8)) : Bool) fun z20_13 =>
   if z20_13 = true then (
    obind (texts_turned x1 (65 : Int) (97 : Int)) fun y22_15 =>
    obind (value_Text y22_15) fun y23_16 =>
    some y23_16
   ) else (
    bindv (decide (x0 = ([84, 82, 73, 77] : List UInt8)) : Bool) fun z25_17 =>
    if z25_17 = true then (
     obind (texts_trimmed x1) fun y27_19 =>
     obind (value_Text y27_19) fun y28_20 =>
     some y28_20
    ) else (
     bindv (decide (x0 = ([86, 65, 76, 85, 69] : List UInt8)) : Bool) fun z30_21 =>
     if z30_21 = true then (
      obind (value_ToNum (⟨2, 0, x1⟩ : V)) fun y33_23 =>
      some y33_23
     ) else (
      obind (value_Fail (2 : Int)) fun y34_24 =>
      some y34_24
     )
    )
   )
  )
 )
def texts_Part (x0 : List UInt8) (x1 : List UInt8) (x2 : List (Int)) : Option (V) :=
 bindv (decide ((x2.length : Int) = 0) : Bool) fun z14_3 =>
 if z14_3 = true then (
  obind (value_Fail (2 : Int)) fun y15_5 =>
  some y15_5
 ) else (
  bindv (IntKind.wrap .i64 ((x2.length : Int) - 1) : Int) fun z20_6 =>
  chk ((0 : Int) ≤ z20_6 ∧ z20_6 < (x2.length : Int)) <|
  bindv (gel x2 z20_6 : Int) fun z21_8 =>
  obind (texts_count z21_8 x1) fun y24_9 =>
  bindv (!y24_9.2 : Bool) fun z28_11 =>
  if z28_11 = true then (
   obind (value_Fail (2 : Int)) fun y29_13 =>
   some y29_13
  ) else (
   bindv (decide (x0 = ([76, 69, 70, 84] : List UInt8)) : Bool) fun z32_16 =>
   if z32_16 = true then (
    chk ((0 : Int) ≤ y24_9.1 ∧ y24_9.1 ≤ (x1.length : Int)) <|
    bindv (cutS x1 0 y24_9.1 : List UInt8) fun z35_19 =>
    obind (value_Text z35_19) fun y36_20 =>
    some y36_20
   ) else (
    bindv (decide (x0 = ([82, 73, 71, 72, 84] : List UInt8)) : Bool) fun z38_21 =>
    if z38_21 = true then (
     bindv (IntKind.wrap .i64 ((x1.length : Int) - y24_9.1) : Int) fun z43_23 =>
     chk ((0 : Int) ≤ z43_23 ∧ z43_23 ≤ (x1.length : Int)) <|
     bindv (cutS x1 z43_23 x1.length : List UInt8) fun z44_25 =>
     obind (value_Text z44_25) fun y45_26 =>
     some y45_26
    ) else (
     bindv (decide (x0 = ([77, 73, 68] : List UInt8)) : Bool) fun z47_27 =>
     if z47_27 = true then (
      chk ((0 : Int) ≤ 0 ∧ 0 < (x2.length : Int)) <|
      bindv (gel x2 0 : Int) fun z49_30 =>
      bindv (IntKind.wrap .i64 (Int.tdiv z49_30 1000000) : Int) fun z51_31 =>
      bindv (decide (z51_31 < 1) : Bool) fun z53_33 =>
      if z53_33 = true then (
       obind (value_Fail (2 : Int)) fun y54_35 =>
       some y54_35
      ) else (
       bindv (IntKind.wrap .i64 (z51_31 - 1) : Int) fun z56_36 =>
       bindv (min z56_36 (x1.length : Int) : Int) fun z59_37 =>
       bindv (IntKind.wrap .i64 (z59_37 + y24_9.1) : Int) fun z64_38 =>
       bindv (min z64_38 (x1.length : Int) : Int) fun z67_39 =>
       chk ((0 : Int) ≤ z59_37 ∧ z59_37 ≤ z67_39 ∧ z67_39 ≤ (x1.length : Int)) <|
       bindv (cutS x1 z59_37 z67_39 : List UInt8) fun z68_41 =>
       obind (value_Text z68_41) fun y69_42 =>
       some y69_42
      )
     ) else (
      bindv (decide (x0 = ([82, 69, 80, 84] : List UInt8)) : Bool) fun z71_43 =>
      if z71_43 = true then (
       chk ((0 : Int) ≤ 0 ∧ 0 < (x2.length : Int)) <|
       bindv (gel x2 0 : Int) fun z73_46 =>
       bindv (IntKind.wrap .i64 (Int.tdiv z73_46 1000000) : Int) fun z75_47 =>
       bindv (decide (64 < z75_47) : Bool) fun z77_49 =>
       bindv (!decide (x1 = []) : Bool) fun z80_50 =>
       bindv (z77_49 && z80_50 : Bool) fun z81_51 =>
       if z81_51 = true then (
        obind (value_Fail (2 : Int)) fun y82_53 =>
        some y82_53
       ) else (
        bindv (min z75_47 64 : Int) fun z85_54 =>
        chk (0 ≤ z85_54 ∧ z85_54 ≤ 9223372036854775807 ∧ x1.length * (Int.toNat z85_54) ≤ 140737488355328) <|
        bindv (Lib.repeatL x1 (Int.toNat z85_54) : (List UInt8)) fun z86_57 =>
        obind (value_Text z86_57) fun y87_58 =>
        some y87_58
       )
      ) else (
       obind (value_Fail (2 : Int)) fun y88_59 =>
       some y88_59
      )
     )
    )
   )
  )
 )
def texts_More (x0 : List UInt8) (x1 : List (List UInt8)) : Option (V) :=
 bindv (decide (x0 = ([67, 79, 78, 67, 65, 84] : List UInt8)) : Bool) fun z8_3 =>
 if z8_3 = true then (
  chk (x1.length ≤ 140737488355328 ∧ (Lib.join x1 []).length ≤ 140737488355328) <|
  bindv (Lib.join x1 [] : (List UInt8)) fun z10_7 =>
  obind (value_Text z10_7) fun y11_8 =>
  some y11_8
 ) else (
  bindv (decide (x0 = ([69, 88, 65, 67, 84] : List UInt8)) : Bool) fun z14_9 =>
  bindv (decide ((x1.length : Int) = 2) : Bool) fun z18_10 =>
  bindv (z14_9 && z18_10 : Bool) fun z19_11 =>
  if z19_11 = true then (
   chk ((0 : Int) ≤ 0 ∧ 0 < (x1.length : Int)) <|
   bindv (gel x1 0 : List UInt8) fun z21_14 =>
   chk ((0 : Int) ≤ 1 ∧ 1 < (x1.length : Int)) <|
   bindv (gel x1 1 : List UInt8) fun z24_16 =>
   bindv (decide (z21_14 = z24_16) : Bool) fun z26_17 =>
   obind (value_Bool z26_17) fun y27_18 =>
   some y27_18
  ) else (
   bindv (decide (x0 = ([70, 73, 78, 68] : List UInt8)) : Bool) fun z30_19 =>
   bindv (decide ((x1.length : Int) = 2) : Bool) fun z34_20 =>
   bindv (z30_19 && z34_20 : Bool) fun z35_21 =>
   if z35_21 = true then (
    chk ((0 : Int) ≤ 1 ∧ 1 < (x1.length : Int)) <|
    bindv (gel x1 1 : List UInt8) fun z37_24 =>
    chk ((0 : Int) ≤ 0 ∧ 0 < (x1.length : Int)) <|
    bindv (gel x1 0 : List UInt8) fun z40_26 =>
    chk (z37_24.length < 4294967281) <|
    bindv (Lib.index z37_24 z40_26 : Int) fun z42_29 =>
    bindv (decide (z42_29 < 0) : Bool) fun z44_31 =>
    if z44_31 = true then (
     obind (value_Fail (2 : Int)) fun y45_33 =>
     some y45_33
    ) else (
     bindv (IntKind.wrap .i64 (z42_29 + 1) : Int) fun z47_34 =>
     obind (num_Of z47_34) fun y48_35 =>
     obind (value_Made y48_35.1 y48_35.2) fun y51_36 =>
     some y51_36
    )
   ) else (
    bindv (decide (x0 = ([83, 85, 66, 83, 84, 73, 84, 85, 84, 69] : List UInt8)) : Bool) fun z54_37 =>
    bindv (decide ((x1.length : Int) = 3) : Bool) fun z58_38 =>
    bindv (z54_37 && z58_38 : Bool) fun z59_39 =>
    if z59_39 = true then (
     chk ((0 : Int) ≤ 1 ∧ 1 < (x1.length : Int)) <|
     bindv (gel x1 1 : List UInt8) fun z61_43 =>
     bindv (decide (z61_43 = []) : Bool) fun z63_44 =>
     if z63_44 = true then (
      chk ((0 : Int) ≤ 0 ∧ 0 < (x1.length : Int)) <|
      bindv (gel x1 0 : List UInt8) fun z65_47 =>
      obind (value_Text z65_47) fun y67_48 =>
      some y67_48
     ) else (
      chk ((0 : Int) ≤ 0 ∧ 0 < (x1.length : Int)) <|
      bindv (gel x1 0 : List UInt8) fun z69_50 =>
      chk ((0 : Int) ≤ 1 ∧ 1 < (x1.length : Int)) <|
      bindv (gel x1 1 : List UInt8) fun z72_52 =>
      chk ((0 : Int) ≤ 2 ∧ 2 < (x1.length : Int)) <|
      bindv (gel x1 2 : List UInt8) fun z75_54 =>
      chk (z69_50.length < 4294967281 ∧ 1 ≤ z72_52.length ∧ z69_50.length + Lib.countB ⟨z69_50.toArray⟩ ⟨z72_52.toArray⟩ * z75_54.length ≤ 140737488355328) <|
      bindv (Lib.replaceAll z69_50 z72_52 z75_54 : (List UInt8)) fun z77_57 =>
      obind (value_Text z77_57) fun y78_58 =>
      some y78_58
     )
    ) else (
     obind (value_Fail (2 : Int)) fun y79_59 =>
     some y79_59
    )
   )
  )
 )
def lists_SumProduct (x0 : List (V)) (x1 : List (V)) : Option (V) :=
 bindv (!decide ((x0.length : Int) = (x1.length : Int)) : Bool) fun z12_3 =>
 if z12_3 = true then (
  obind (value_Fail (2 : Int)) fun y13_5 =>
  some y13_5
 ) else (
  obind (value_Num (0 : Int)) fun y14_6 =>
  bindv ((fun s9 =>
   some (⟨s9.2.2.2.1, s9.2.2.2.2.1, s9.2.2.2.2.2⟩ : V)
   ) : (Int × Int × (List UInt8) × Int × Int × (List UInt8)) → Option (V)) fun J9 =>
  bindv (fun (n11 : (Int × Int × Int × (List UInt8) × Int × Int × (List UInt8)) → Option (V)) (s11 : Int × Int × Int × (List UInt8) × Int × Int × (List UInt8)) =>
   bindv (decide (s11.1 < (x0.length : Int)) : Bool) fun z18_13 =>
   if z18_13 = true then (
    chk ((0 : Int) ≤ s11.1 ∧ s11.1 < (x0.length : Int)) <|
    bindv (gel x0 s11.1 : V) fun z22_19 =>
    bindv (!decide (z22_19.k = 1) : Bool) fun z25_20 =>
    chk ((!z25_20) = true → (0 : Int) ≤ s11.1 ∧ s11.1 < (x1.length : Int)) <|
    bindv (gel x1 s11.1 : V) fun z29_22 =>
    bindv (!decide (z29_22.k = 1) : Bool) fun z32_23 =>
    bindv (z25_20 || z32_23 : Bool) fun z33_24 =>
    if z33_24 = true then (
     bindv (IntKind.wrap .i64 (s11.1 + 1) : Int) fun z65_26 =>
     n11 (z65_26, s11.2.1, s11.2.2.1, s11.2.2.2.1, s11.2.2.2.2.1, s11.2.2.2.2.2.1, s11.2.2.2.2.2.2)
    ) else (
     chk ((0 : Int) ≤ s11.1 ∧ s11.1 < (x0.length : Int)) <|
     bindv (gel x0 s11.1 : V) fun z37_28 =>
     chk ((0 : Int) ≤ s11.1 ∧ s11.1 < (x1.length : Int)) <|
     bindv (gel x1 s11.1 : V) fun z41_30 =>
     obind (lists_Product [z37_28, z41_30]) fun y44_31 =>
     obind (lists_Sum [(⟨s11.2.2.2.2.1, s11.2.2.2.2.2.1, s11.2.2.2.2.2.2⟩ : V), y44_31]) fun y46_32 =>
     chk ((0 : Int) ≤ s11.1 ∧ s11.1 < (x0.length : Int)) <|
     bindv (gel x0 s11.1 : V) fun z49_35 =>
     chk ((0 : Int) ≤ s11.1 ∧ s11.1 < (x1.length : Int)) <|
     bindv (gel x1 s11.1 : V) fun z53_37 =>
     obind (lists_Product [z49_35, z53_37]) fun y56_38 =>
     bindv (decide (y56_38.k = 4) : Bool) fun z59_40 =>
     if z59_40 = true then (
      some y56_38
     ) else (
      bindv (decide (y46_32.k = 4) : Bool) fun z63_42 =>
      if z63_42 = true then (
       some y46_32
      ) else (
       bindv (IntKind.wrap .i64 (s11.1 + 1) : Int) fun z65_44 =>
       n11 (z65_44, s11.2.1, s11.2.2.1, s11.2.2.2.1, y46_32.k, y46_32.n, y46_32.s)
      )
     )
    )
   ) else (
    J9 (s11.2.1, s11.2.2.1, s11.2.2.2.1, s11.2.2.2.2.1, s11.2.2.2.2.2.1, s11.2.2.2.2.2.2)
   )
   ) fun B11 =>
  loopF B11 KK (0, 0, 0, [], y14_6.k, y14_6.n, y14_6.s)
 )
end Go.Sp
end
section
namespace Go.Sp
open Go.Stp Go.ValP
def funcs_single (x0 : Arg) : Option (V) :=
 bindv (!decide ((x0.l.length : Int) = 1) : Bool) fun z6_4 =>
 if z6_4 = true then (
  obind (value_Fail (2 : Int)) fun y7_6 =>
  some y7_6
 ) else (
  chk ((0 : Int) ≤ 0 ∧ 0 < (x0.l.length : Int)) <|
  bindv (gel x0.l 0 : V) fun z10_8 =>
  some z10_8
 )
def funcs_nums (x0 : List (Arg)) : Option ((List (Int)) × V) :=
 bindv ((fun s3 =>
  some (s3.2.2.2, (⟨0, 0, []⟩ : V))
  ) : (Int × Int × (List UInt8) × (List (Int))) → Option ((List (Int)) × V)) fun J3 =>
 bindv (fun (n6 : (Int × Int × Int × (List UInt8) × (List (Int))) → Option ((List (Int)) × V)) (s6 : Int × Int × Int × (List UInt8) × (List (Int))) =>
  bindv (decide (s6.1 < (x0.length : Int)) : Bool) fun z11_9 =>
  if z11_9 = true then (
   chk ((0 : Int) ≤ s6.1 ∧ s6.1 < (x0.length : Int)) <|
   bindv (gel x0 s6.1 : Arg) fun z12_14 =>
   obind (funcs_single z12_14) fun y15_17 =>
   obind (value_ToNum y15_17) fun y16_18 =>
   bindv (decide (y16_18.k = 4) : Bool) fun z19_21 =>
   if z19_21 = true then (
    some ([], y16_18)
   ) else (
    chk (s6.2.2.2.2.length + [y16_18.n].length ≤ 9223372036854775807 ∧ (s6.2.2.2.2.length + [y16_18.n].length) * 8 ≤ 140737488355328) <|
    bindv (s6.2.2.2.2 ++ [y16_18.n] : List (Int)) fun z25_26 =>
    bindv (IntKind.wrap .i64 (s6.1 + 1) : Int) fun z26_27 =>
    n6 (z26_27, s6.2.1, s6.2.2.1, s6.2.2.2.1, z25_26)
   )
  ) else (
   J3 (s6.2.1, s6.2.2.1, s6.2.2.2.1, s6.2.2.2.2)
  )
  ) fun B6 =>
 loopF B6 KK (0, 0, 0, [], ([] : List (Int)))
def funcs_strs (x0 : List (Arg)) : Option ((List (List UInt8)) × V) :=
 bindv ((fun s3 =>
  some (s3.2.2.2, (⟨0, 0, []⟩ : V))
  ) : (Int × Int × (List UInt8) × (List (List UInt8))) → Option ((List (List UInt8)) × V)) fun J3 =>
 bindv (fun (n6 : (Int × Int × Int × (List UInt8) × (List (List UInt8))) → Option ((List (List UInt8)) × V)) (s6 : Int × Int × Int × (List UInt8) × (List (List UInt8))) =>
  bindv (decide (s6.1 < (x0.length : Int)) : Bool) fun z11_9 =>
  if z11_9 = true then (
   chk ((0 : Int) ≤ s6.1 ∧ s6.1 < (x0.length : Int)) <|
   bindv (gel x0 s6.1 : Arg) fun z12_14 =>
   obind (funcs_single z12_14) fun y15_17 =>
   obind (value_ToText y15_17) fun y16_18 =>
   bindv (decide (y16_18.k = 4) : Bool) fun z19_21 =>
   if z19_21 = true then (
    some ([], y16_18)
   ) else (
    chk (s6.2.2.2.2.length + [y16_18.s].length ≤ 9223372036854775807 ∧ (s6.2.2.2.2.length + [y16_18.s].length) * 16 ≤ 140737488355328) <|
    bindv (s6.2.2.2.2 ++ [y16_18.s] : List (List UInt8)) fun z25_26 =>
    bindv (IntKind.wrap .i64 (s6.1 + 1) : Int) fun z26_27 =>
    n6 (z26_27, s6.2.1, s6.2.2.1, s6.2.2.2.1, z25_26)
   )
  ) else (
   J3 (s6.2.1, s6.2.2.1, s6.2.2.2.1, s6.2.2.2.2)
  )
  ) fun B6 =>
 loopF B6 KK (0, 0, 0, [], ([] : List (List UInt8)))
def funcs_all (x0 : List (Arg)) : Option ((List (V))) :=
 bindv ((fun s2 =>
  some s2
  ) : ((List (V))) → Option ((List (V)))) fun J2 =>
 bindv (fun (n5 : (Int × (List (V))) → Option ((List (V)))) (s5 : Int × (List (V))) =>
  bindv (decide (s5.1 < (x0.length : Int)) : Bool) fun z9_8 =>
  if z9_8 = true then (
   chk ((0 : Int) ≤ s5.1 ∧ s5.1 < (x0.length : Int)) <|
   bindv (gel x0 s5.1 : Arg) fun z10_13 =>
   chk (s5.2.length + z10_13.l.length ≤ 9223372036854775807 ∧ (s5.2.length + z10_13.l.length) * 32 ≤ 140737488355328) <|
   bindv (s5.2 ++ z10_13.l : List (V)) fun z15_18 =>
   bindv (IntKind.wrap .i64 (s5.1 + 1) : Int) fun z16_19 =>
   n5 (z16_19, z15_18)
  ) else (
   J2 s5.2
  )
  ) fun B5 =>
 loopF B5 KK (0, ([] : List (V)))
def funcs_kind (x0 : List UInt8) (x1 : V) : Option (V) :=
 bindv (decide (x0 = ([73, 83, 78, 85, 77, 66, 69, 82] : List UInt8)) : Bool) fun z8_5 =>
 if z8_5 = true then (
  bindv (decide (x1.k = 1) : Bool) fun z11_7 =>
  obind (value_Bool z11_7) fun y12_8 =>
  some y12_8
 ) else (
  bindv (decide (x0 = ([73, 83, 84, 69, 88, 84] : List UInt8)) : Bool) fun z14_9 =>
  if z14_9 = true then (
   bindv (decide (x1.k = 2) : Bool) fun z17_11 =>
   obind (value_Bool z17_11) fun y18_12 =>
   some y18_12
  ) else (
   bindv (decide (x0 = ([73, 83, 66, 76, 65, 78, 75] : List UInt8)) : Bool) fun z20_13 =>
   if z20_13 = true then (
    bindv (decide (x1.k = 0) : Bool) fun z23_15 =>
    obind (value_Bool z23_15) fun y24_16 =>
    some y24_16
   ) else (
    bindv (decide (x0 = ([73, 83, 69, 82, 82, 79, 82] : List UInt8)) : Bool) fun z26_17 =>
    if z26_17 = true then (
     bindv (decide (x1.k = 4) : Bool) fun z29_19 =>
     obind (value_Bool z29_19) fun y30_20 =>
     some y30_20
    ) else (
     bindv (decide (x0 = ([73, 83, 76, 79, 71, 73, 67, 65, 76] : List UInt8)) : Bool) fun z32_21 =>
     if z32_21 = true then (
      bindv (decide (x1.k = 3) : Bool) fun z35_23 =>
      obind (value_Bool z35_23) fun y36_24 =>
      some y36_24
     ) else (
      bindv (decide (x0 = ([78, 79, 84] : List UInt8)) : Bool) fun z38_25 =>
      if z38_25 = true then (
       obind (value_ToBool x1) fun y40_27 =>
       bindv (decide (y40_27.k = 4) : Bool) fun z43_30 =>
       if z43_30 = true then (
        some y40_27
       ) else (
        bindv (decide (y40_27.n = 0) : Bool) fun z47_32 =>
        obind (value_Bool z47_32) fun y48_33 =>
        some y48_33
       )
      ) else (
       obind (value_Fail (2 : Int)) fun y49_34 =>
       some y49_34
      )
     )
    )
   )
  )
 )
def funcs_list (x0 : List UInt8) (x1 : List (Arg)) : Option (V) :=
 bindv ((fun s5 =>
  if s5 = true then (
   bindv (decide (x0 = ([77, 65, 88] : List UInt8)) : Bool) fun z14_7 =>
   obind (funcs_all x1) fun y16_8 =>
   obind (lists_Extreme z14_7 y16_8) fun y17_10 =>
   some y17_10
  ) else (
   bindv (decide (x0 = ([83, 85, 77] : List UInt8)) : Bool) fun z19_11 =>
   if z19_11 = true then (
    obind (funcs_all x1) fun y21_13 =>
    obind (lists_Sum y21_13) fun y22_15 =>
    some y22_15
   ) else (
    bindv (decide (x0 = ([80, 82, 79, 68, 85, 67, 84] : List UInt8)) : Bool) fun z24_16 =>
    if z24_16 = true then (
     obind (funcs_all x1) fun y26_18 =>
     obind (lists_Product y26_18) fun y27_20 =>
     some y27_20
    ) else (
     bindv (decide (x0 = ([67, 79, 85, 78, 84] : List UInt8)) : Bool) fun z29_21 =>
     if z29_21 = true then (
      obind (funcs_all x1) fun y31_23 =>
      obind (lists_Count (1 : Int) true y31_23) fun y32_25 =>
      some y32_25
     ) else (
      bindv (decide (x0 = ([67, 79, 85, 78, 84, 65] : List UInt8)) : Bool) fun z34_26 =>
      if z34_26 = true then (
       obind (funcs_all x1) fun y36_28 =>
       obind (lists_Count (0 : Int) false y36_28) fun y37_30 =>
       some y37_30
      ) else (
       bindv (decide (x0 = ([67, 79, 85, 78, 84, 66, 76, 65, 78, 75] : List UInt8)) : Bool) fun z39_31 =>
       if z39_31 = true then (
        obind (funcs_all x1) fun y41_33 =>
        obind (lists_Count (0 : Int) true y41_33) fun y42_35 =>
        some y42_35
       ) else (
        bindv (decide (x0 = ([65, 86, 69, 82, 65, 71, 69] : List UInt8)) : Bool) fun z44_36 =>
        if z44_36 = true then (
         obind (funcs_all x1) fun y46_38 =>
         obind (lists_Average y46_38) fun y47_40 =>
         some y47_40
        ) else (
         bindv (decide (x0 = ([67, 79, 85, 78, 84, 73, 70] : List UInt8)) : Bool) fun z49_41 =>
         if z49_41 = true then (
          chk ((0 : Int) ≤ 1 ∧ 1 < (x1.length : Int)) <|
          bindv (gel x1 1 : Arg) fun z51_44 =>
          obind (funcs_single z51_44) fun y53_46 =>
          chk ((0 : Int) ≤ 0 ∧ 0 < (x1.length : Int)) <|
          bindv (gel x1 0 : Arg) fun z55_48 =>
          obind (lists_CountIf y53_46 z55_48.l) fun y58_50 =>
          some y58_50
         ) else (
          bindv (decide (x0 = ([83, 85, 77, 73, 70] : List UInt8)) : Bool) fun z60_51 =>
          if z60_51 = true then (
           chk ((0 : Int) ≤ 1 ∧ 1 < (x1.length : Int)) <|
           bindv (gel x1 1 : Arg) fun z62_54 =>
           obind (funcs_single z62_54) fun y64_56 =>
           chk ((0 : Int) ≤ 0 ∧ 0 < (x1.length : Int)) <|
           bindv (gel x1 0 : Arg) fun z66_58 =>
           obind (lists_SumIf y64_56 z66_58.l) fun y69_60 =>
           some y69_60
          ) else (
           bindv (decide (x0 = ([83, 85, 77, 80, 82, 79, 68, 85, 67, 84] : List UInt8)) : Bool) fun z71_61 =>
           if z71_61 = true then (
            chk ((0 : Int) ≤ 0 ∧ 0 < (x1.length : Int)) <|
            bindv (gel x1 0 : Arg) fun z73_64 =>
            chk ((0 : Int) ≤ 1 ∧ 1 < (x1.length : Int)) <|
            bindv (gel x1 1 : Arg) fun z77_67 =>
            obind (lists_SumProduct z73_64.l z77_67.l) fun y80_69 =>
            some y80_69
           ) else (
            bindv (decide (x0 = ([77, 65, 84, 67, 72] : List UInt8)) : Bool) fun z82_70 =>
            if z82_70 = true then (
             chk ((0 : Int) ≤ 0 ∧ 0 < (x1.length : Int)) <|
             bindv (gel x1 0 : Arg) fun z84_73 =>
             obind (funcs_single z84_73) fun y86_75 =>
             chk ((0 : Int) ≤ 1 ∧ 1 < (x1.length : Int)) <|
             bindv (gel x1 1 : Arg) fun z88_77 =>
             obind (lists_Match y86_75 z88_77.l) fun y91_79 =>
             some y91_79
            ) else (
             bindv (decide (x0 = ([82, 79, 87, 83] : List UInt8)) : Bool) fun z93_80 =>
             if z93_80 = true then (
              chk ((0 : Int) ≤ 0 ∧ 0 < (x1.length : Int)) <|
              bindv (gel x1 0 : Arg) fun z95_83 =>
              chk ((0 : Int) ≤ 0 ∧ 0 < (x1.length : Int)) <|
              bindv (gel x1 0 : Arg) fun z100_86 =>
              bindv (max z100_86.cols 1 : Int) fun z103_88 =>
              chk (z103_88 ≠ 0) <|
              bindv (IntKind.wrap .i64 (Int.tdiv (z95_83.l.length : Int) z103_88) : Int) fun z104_90 =>
              obind (num_Of z104_90) fun y105_91 =>
              obind (value_Made y105_91.1 y105_91.2) fun y108_92 =>
              some y108_92
             ) else (
              bindv (decide (x0 = ([67, 79, 76, 85, 77, 78, 83] : List UInt8)) : Bool) fun z110_93 =>
              if z110_93 = true then (
               chk ((0 : Int) ≤ 0 ∧ 0 < (x1.length : Int)) <|
               bindv (gel x1 0 : Arg) fun z112_96 =>
               obind (num_Of z112_96.cols) fun y115_98 =>
               obind (value_Made y115_98.1 y115_98.2) fun y118_99 =>
               some y118_99
              ) else (
               bindv (decide (x0 = ([78, 65] : List UInt8)) : Bool) fun z120_100 =>
               if z120_100 = true then (
                obind (value_Fail (6 : Int)) fun y121_102 =>
                some y121_102
               ) else (
                bindv (decide (x0 = ([73, 78, 68, 69, 88] : List UInt8)) : Bool) fun z123_103 =>
                if z123_103 = true then (
                 chk ((0 : Int) ≤ (1 : Int) ∧ (1 : Int) ≤ (x1.length : Int) ∧ (x1.length : Int) ≤ (x1.length : Int)) <|
                 bindv (cutL x1 (1 : Int) (x1.length : Int) : List (Arg)) fun z126_106 =>
                 obind (funcs_nums z126_106) fun y127_108 =>
                 bindv (decide (y127_108.2.k = 4) : Bool) fun z132_112 =>
                 if z132_112 = true then (
                  some y127_108.2
                 ) else (
                  chk ((0 : Int) ≤ 0 ∧ 0 < (x1.length : Int)) <|
                  bindv (gel x1 0 : Arg) fun z135_115 =>
                  chk ((0 : Int) ≤ 0 ∧ 0 < (y127_108.1.length : Int)) <|
                  bindv (gel y127_108.1 0 : Int) fun z139_118 =>
                  bindv (IntKind.wrap .i64 (Int.tdiv z139_118 1000000) : Int) fun z141_119 =>
                  chk ((0 : Int) ≤ 1 ∧ 1 < (y127_108.1.length : Int)) <|
                  bindv (gel y127_108.1 1 : Int) fun z143_121 =>
                  bindv (IntKind.wrap .i64 (Int.tdiv z143_121 1000000) : Int) fun z145_122 =>
                  chk ((0 : Int) ≤ 0 ∧ 0 < (x1.length : Int)) <|
                  bindv (gel x1 0 : Arg) fun z147_124 =>
                  obind (lists_Index z135_115.cols z141_119 z145_122 z147_124.l) fun y150_126 =>
                  some y150_126
                 )
                ) else (
                 bindv (decide (x0 = ([86, 76, 79, 79, 75, 85, 80] : List UInt8)) : Bool) fun z152_127 =>
                 if z152_127 = true then (
                  chk ((0 : Int) ≤ (2 : Int) ∧ (2 : Int) ≤ (x1.length : Int) ∧ (x1.length : Int) ≤ (x1.length : Int)) <|
                  bindv (cutL x1 (2 : Int) (x1.length : Int) : List (Arg)) fun z155_130 =>
                  obind (funcs_nums z155_130) fun y156_132 =>
                  bindv (decide (y156_132.2.k = 4) : Bool) fun z161_136 =>
                  if z161_136 = true then (
                   some y156_132.2
                  ) else (
                   chk ((0 : Int) ≤ 0 ∧ 0 < (x1.length : Int)) <|
                   bindv (gel x1 0 : Arg) fun z164_139 =>
                   obind (funcs_single z164_139) fun y166_141 =>
                   chk ((0 : Int) ≤ 1 ∧ 1 < (x1.length : Int)) <|
                   bindv (gel x1 1 : Arg) fun z168_143 =>
                   chk ((0 : Int) ≤ 0 ∧ 0 < (y156_132.1.length : Int)) <|
                   bindv (gel y156_132.1 0 : Int) fun z172_146 =>
                   bindv (IntKind.wrap .i64 (Int.tdiv z172_146 1000000) : Int) fun z174_147 =>
                   chk ((0 : Int) ≤ 1 ∧ 1 < (x1.length : Int)) <|
                   bindv (gel x1 1 : Arg) fun z176_149 =>
                   obind (lists_VLookup y166_141 z168_143.cols z174_147 z176_149.l) fun y179_151 =>
                   some y179_151
                  )
                 ) else (
                  chk ((0 : Int) ≤ 0 ∧ 0 < (x1.length : Int)) <|
                  bindv (gel x1 0 : Arg) fun z182_153 =>
                  obind (funcs_single z182_153) fun y184_155 =>
                  obind (funcs_kind x0 y184_155) fun y185_156 =>
                  some y185_156
                 )
                )
               )
              )
             )
            )
           )
          )
         )
        )
       )
      )
     )
    )
   )
  )
  ) : (Bool) → Option (V)) fun J5 =>
 bindv (decide (x0 = ([77, 73, 78] : List UInt8)) : Bool) fun z11_157 =>
 if z11_157 = true then (
  J5 z11_157
 ) else (
  bindv (decide (x0 = ([77, 65, 88] : List UInt8)) : Bool) fun z12_159 =>
  J5 z12_159
 )
def funcs_Apply (x0 : Int) (x1 : List (Arg)) : Option (V) :=
 obind (tree_Name x0) fun y14_2 =>
 obind (tree_Fits x0 (x1.length : Int)) fun y18_4 =>
 bindv (!y18_4 : Bool) fun z19_5 =>
 if z19_5 = true then (
  obind (value_Fail (2 : Int)) fun y20_7 =>
  some y20_7
 ) else (
  bindv ((fun s11 =>
   if s11 = true then (
    obind (funcs_nums x1) fun y38_13 =>
    bindv (decide (y38_13.2.k = 4) : Bool) fun z43_17 =>
    if z43_17 = true then (
     some y38_13.2
    ) else (
     bindv (decide ((y38_13.1.length : Int) = 1) : Bool) fun z47_20 =>
     if z47_20 = true then (
      chk ((0 : Int) ≤ 0 ∧ 0 < (y38_13.1.length : Int)) <|
      bindv (gel y38_13.1 0 : Int) fun z50_23 =>
      obind (maths_One y14_2 z50_23) fun y52_24 =>
      some y52_24
     ) else (
      chk ((0 : Int) ≤ 0 ∧ 0 < (y38_13.1.length : Int)) <|
      bindv (gel y38_13.1 0 : Int) fun z55_26 =>
      chk ((0 : Int) ≤ 1 ∧ 1 < (y38_13.1.length : Int)) <|
      bindv (gel y38_13.1 1 : Int) fun z58_28 =>
      obind (maths_Two y14_2 z55_26 z58_28) fun y60_29 =>
      some y60_29
     )
    )
   ) else (
    bindv ((fun s31 =>
     if s31 = true then (
      obind (funcs_strs x1) fun y73_33 =>
      bindv (decide (y73_33.2.k = 4) : Bool) fun z78_37 =>
      if z78_37 = true then (
       some y73_33.2
      ) else (
       bindv (decide ((y73_33.1.length : Int) = 1) : Bool) fun z82_40 =>
       bindv (!decide (y14_2 = ([67, 79, 78, 67, 65, 84] : List UInt8)) : Bool) fun z85_41 =>
       bindv (z82_40 && z85_41 : Bool) fun z86_42 =>
       if z86_42 = true then (
        chk ((0 : Int) ≤ 0 ∧ 0 < (y73_33.1.length : Int)) <|
        bindv (gel y73_33.1 0 : List UInt8) fun z89_45 =>
        obind (texts_One y14_2 z89_45) fun y91_46 =>
        some y91_46
       ) else (
        obind (texts_More y14_2 y73_33.1) fun y94_47 =>
        some y94_47
       )
      )
     ) else (
      bindv ((fun s49 =>
       if s49 = true then (
        chk ((0 : Int) ≤ (0 : Int) ∧ (0 : Int) ≤ (1 : Int) ∧ (1 : Int) ≤ (x1.length : Int)) <|
        bindv (cutL x1 (0 : Int) (1 : Int) : List (Arg)) fun z102_52 =>
        obind (funcs_strs z102_52) fun y103_54 =>
        bindv (decide (y103_54.2.k = 4) : Bool) fun z108_58 =>
        if z108_58 = true then (
         some y103_54.2
        ) else (
         chk ((0 : Int) ≤ (1 : Int) ∧ (1 : Int) ≤ (x1.length : Int) ∧ (x1.length : Int) ≤ (x1.length : Int)) <|
         bindv (cutL x1 (1 : Int) (x1.length : Int) : List (Arg)) fun z112_61 =>
         obind (funcs_nums z112_61) fun y113_63 =>
         bindv (decide (y113_63.2.k = 4) : Bool) fun z118_66 =>
         if z118_66 = true then (
          some y113_63.2
         ) else (
          chk ((0 : Int) ≤ 0 ∧ 0 < (y103_54.1.length : Int)) <|
          bindv (gel y103_54.1 0 : List UInt8) fun z122_69 =>
          obind (texts_Part y14_2 z122_69 y113_63.1) fun y125_70 =>
          some y125_70
         )
        )
       ) else (
        obind (funcs_list y14_2 x1) fun y128_71 =>
        some y128_71
       )
       ) : (Bool) → Option (V)) fun J49 =>
      bindv (decide (y14_2 = ([76, 69, 70, 84] : List UInt8)) : Bool) fun z96_72 =>
      if z96_72 = true then (
       J49 z96_72
      ) else (
       bindv (decide (y14_2 = ([82, 73, 71, 72, 84] : List UInt8)) : Bool) fun z97_74 =>
       if z97_74 = true then (
        J49 z97_74
       ) else (
        bindv (decide (y14_2 = ([77, 73, 68] : List UInt8)) : Bool) fun z98_76 =>
        if z98_76 = true then (
         J49 z98_76
        ) else (
         bindv (decide (y14_2 = ([82, 69, 80, 84] : List UInt8)) : Bool) fun z99_78 =>
         J49 z99_78
        )
       )
      )
     )
     ) : (Bool) → Option (V)) fun J31 =>
    bindv (decide (y14_2 = ([76, 69, 78] : List UInt8)) : Bool) fun z62_79 =>
    if z62_79 = true then (
     J31 z62_79
    ) else (
     bindv (decide (y14_2 = ([85, 80, 80, 69, 82] : List UInt8)) : Bool) fun z63_81 =>
     if z63_81 = true then (
      J31 z63_81
     ) else (
      bindv (decide (y14_2 = ([76, 79, 87, 69, 82] : List UInt8)) : Bool) fun z64_83 =>
      if z64_83 = true then (
       J31 z64_83
      ) else (
       bindv (decide (y14_2 = ([84, 82, 73, 77] : List UInt8)) : Bool) fun z65_85 =>
       if z65_85 = true then (
        J31 z65_85
       ) else (
        bindv (decide (y14_2 = ([86, 65, 76, 85, 69] : List UInt8)) : Bool) fun z66_87 =>
        if z66_87 = true then (
         J31 z66_87
        ) else (
         bindv (decide (y14_2 = ([67, 79, 78, 67, 65, 84] : List UInt8)) : Bool) fun z67_89 =>
         if z67_89 = true then (
          J31 z67_89
         ) else (
          bindv (decide (y14_2 = ([69, 88, 65, 67, 84] : List UInt8)) : Bool) fun z68_91 =>
          if z68_91 = true then (
           J31 z68_91
          ) else (
           bindv (decide (y14_2 = ([70, 73, 78, 68] : List UInt8)) : Bool) fun z69_93 =>
           if z69_93 = true then (
            J31 z69_93
           ) else (
            bindv (decide (y14_2 = ([83, 85, 66, 83, 84, 73, 84, 85, 84, 69] : List UInt8)) : Bool) fun z70_95 =>
            J31 z70_95
           )
          )
         )
        )
       )
      )
     )
    )
   )
   ) : (Bool) → Option (V)) fun J11 =>
  bindv (decide (y14_2 = ([65, 66, 83] : List UInt8)) : Bool) fun z23_96 =>
  if z23_96 = true then (
   J11 z23_96
  ) else (
   bindv (decide (y14_2 = ([83, 73, 71, 78] : List UInt8)) : Bool) fun z24_98 =>
   if z24_98 = true then (
    J11 z24_98
   ) else (
    bindv (decide (y14_2 = ([73, 78, 84] : List UInt8)) : Bool) fun z25_100 =>
    if z25_100 = true then (
     J11 z25_100
    ) else (
     bindv (decide (y14_2 = ([84, 82, 85, 78, 67] : List UInt8)) : Bool) fun z26_102 =>
     if z26_102 = true then (
      J11 z26_102
     ) else (
      bindv (decide (y14_2 = ([69, 86, 69, 78] : List UInt8)) : Bool) fun z27_104 =>
      if z27_104 = true then (
       J11 z27_104
      ) else (
       bindv (decide (y14_2 = ([79, 68, 68] : List UInt8)) : Bool) fun z28_106 =>
       if z28_106 = true then (
        J11 z28_106
       ) else (
        bindv (decide (y14_2 = ([70, 65, 67, 84] : List UInt8)) : Bool) fun z29_108 =>
        if z29_108 = true then (
         J11 z29_108
        ) else (
         bindv (decide (y14_2 = ([82, 79, 85, 78, 68] : List UInt8)) : Bool) fun z30_110 =>
         if z30_110 = true then (
          J11 z30_110
         ) else (
          bindv (decide (y14_2 = ([77, 79, 68] : List UInt8)) : Bool) fun z31_112 =>
          if z31_112 = true then (
           J11 z31_112
          ) else (
           bindv (decide (y14_2 = ([80, 79, 87, 69, 82] : List UInt8)) : Bool) fun z32_114 =>
           if z32_114 = true then (
            J11 z32_114
           ) else (
            bindv (decide (y14_2 = ([81, 85, 79, 84, 73, 69, 78, 84] : List UInt8)) : Bool) fun z33_116 =>
            if z33_116 = true then (
             J11 z33_116
            ) else (
             bindv (decide (y14_2 = ([71, 67, 68] : List UInt8)) : Bool) fun z34_118 =>
             if z34_118 = true then (
              J11 z34_118
             ) else (
              bindv (decide (y14_2 = ([76, 67, 77] : List UInt8)) : Bool) fun z35_120 =>
              J11 z35_120
             )
            )
           )
          )
         )
        )
       )
      )
     )
    )
   )
  )
 )
def funcs_Binary (x0 : Int) (x1 : V) (x2 : V) : Option (V) :=
 bindv (decide (6 ≤ x0) : Bool) fun z12_5 =>
 if z12_5 = true then (
  obind (value_Compare x1 x2) fun y15_7 =>
  bindv (decide (y15_7 = 0) : Bool) fun z17_8 =>
  bindv (!decide (y15_7 = 0) : Bool) fun z19_9 =>
  bindv (decide (y15_7 < 0) : Bool) fun z21_10 =>
  bindv (decide (y15_7 ≤ 0) : Bool) fun z23_11 =>
  bindv (decide (0 < y15_7) : Bool) fun z25_12 =>
  bindv (decide (0 ≤ y15_7) : Bool) fun z27_13 =>
  bindv (IntKind.wrap .i64 (x0 - 6) : Int) fun z30_14 =>
  chk ((0 : Int) ≤ z30_14 ∧ z30_14 < (6 : Int)) <|
  bindv (gel [z17_8, z19_9, z21_10, z23_11, z25_12, z27_13] z30_14 : Bool) fun z31_16 =>
  obind (value_Bool z31_16) fun y32_17 =>
  some y32_17
 ) else (
  bindv (decide (x0 = 5) : Bool) fun z35_18 =>
  if z35_18 = true then (
   obind (value_Show x1) fun y37_20 =>
   obind (value_Show x2) fun y39_21 =>
   chk (y37_20.length + y39_21.length ≤ 9223372036854775807) <|
   bindv (y37_20 ++ y39_21 : List UInt8) fun z40_23 =>
   obind (value_Text z40_23) fun y41_24 =>
   some y41_24
  ) else (
   obind (value_ToNum x1) fun y43_25 =>
   obind (value_ToNum x2) fun y45_26 =>
   bindv (decide (y43_25.k = 4) : Bool) fun z48_30 =>
   if z48_30 = true then (
    some y43_25
   ) else (
    bindv (decide (y45_26.k = 4) : Bool) fun z52_33 =>
    if z52_33 = true then (
     some y45_26
    ) else (
     bindv (decide (x0 = 1) : Bool) fun z56_37 =>
     if z56_37 = true then (
      obind (num_Add y43_25.n y45_26.n) fun y61_39 =>
      obind (value_Made y61_39.1 y61_39.2) fun y64_40 =>
      some y64_40
     ) else (
      bindv (decide (x0 = 2) : Bool) fun z66_41 =>
      if z66_41 = true then (
       obind (num_Sub y43_25.n y45_26.n) fun y71_43 =>
       obind (value_Made y71_43.1 y71_43.2) fun y74_44 =>
       some y74_44
      ) else (
       bindv (decide (x0 = 3) : Bool) fun z76_45 =>
       if z76_45 = true then (
        obind (num_Mul y43_25.n y45_26.n) fun y81_47 =>
        obind (value_Made y81_47.1 y81_47.2) fun y84_48 =>
        some y84_48
       ) else (
        bindv (decide (y45_26.n = 0) : Bool) fun z87_50 =>
        if z87_50 = true then (
         obind (value_Fail (1 : Int)) fun y88_52 =>
         some y88_52
        ) else (
         obind (num_Quo y43_25.n y45_26.n) fun y93_53 =>
         obind (value_Made y93_53.1 y93_53.2) fun y96_54 =>
         some y96_54
        )
       )
      )
     )
    )
   )
  )
 )
def funcs_Unary (x0 : Int) (x1 : V) : Option (V) :=
 obind (value_ToNum x1) fun y7_3 =>
 bindv (decide (y7_3.k = 4) : Bool) fun z10_6 =>
 if z10_6 = true then (
  some y7_3
 ) else (
  bindv (decide (x0 = 5) : Bool) fun z13_9 =>
  if z13_9 = true then (
   bindv (IntKind.wrap .i64 (-y7_3.n) : Int) fun z16_11 =>
   obind (value_Num z16_11) fun y17_12 =>
   some y17_12
  ) else (
   obind (num_Quo y7_3.n (100000000 : Int)) fun y20_13 =>
   obind (value_Made y20_13.1 y20_13.2) fun y23_14 =>
   some y23_14
  )
 )
def funcs_Bears (x0 : Int) : Option (Bool) :=
 obind (tree_Name x0) fun y4_2 =>
 bindv ((fun s5 =>
  if s5 = true then (
   some true
  ) else (
   some false
  )
  ) : (Bool) → Option (Bool)) fun J5 =>
 bindv (decide (y4_2 = ([67, 79, 85, 78, 84] : List UInt8)) : Bool) fun z6_7 =>
 if z6_7 = true then (
  J5 z6_7
 ) else (
  bindv (decide (y4_2 = ([67, 79, 85, 78, 84, 65] : List UInt8)) : Bool) fun z7_9 =>
  if z7_9 = true then (
   J5 z7_9
  ) else (
   bindv (decide (y4_2 = ([67, 79, 85, 78, 84, 66, 76, 65, 78, 75] : List UInt8)) : Bool) fun z8_11 =>
   if z8_11 = true then (
    J5 z8_11
   ) else (
    bindv (decide (y4_2 = ([73, 83, 78, 85, 77, 66, 69, 82] : List UInt8)) : Bool) fun z9_13 =>
    if z9_13 = true then (
     J5 z9_13
    ) else (
     bindv (decide (y4_2 = ([73, 83, 84, 69, 88, 84] : List UInt8)) : Bool) fun z10_15 =>
     if z10_15 = true then (
      J5 z10_15
     ) else (
      bindv (decide (y4_2 = ([73, 83, 66, 76, 65, 78, 75] : List UInt8)) : Bool) fun z11_17 =>
      if z11_17 = true then (
       J5 z11_17
      ) else (
       bindv (decide (y4_2 = ([73, 83, 69, 82, 82, 79, 82] : List UInt8)) : Bool) fun z12_19 =>
       if z12_19 = true then (
        J5 z12_19
       ) else (
        bindv (decide (y4_2 = ([73, 83, 76, 79, 71, 73, 67, 65, 76] : List UInt8)) : Bool) fun z13_21 =>
        if z13_21 = true then (
         J5 z13_21
        ) else (
         bindv (decide (y4_2 = ([82, 79, 87, 83] : List UInt8)) : Bool) fun z14_23 =>
         if z14_23 = true then (
          J5 z14_23
         ) else (
          bindv (decide (y4_2 = ([67, 79, 76, 85, 77, 78, 83] : List UInt8)) : Bool) fun z15_25 =>
          J5 z15_25
         )
        )
       )
      )
     )
    )
   )
  )
 )
end Go.Sp
end
section
namespace Go.Sp
open Go.Stp Go.ValP
def tree_Value (x0 : V) : Option (Nd) :=
 some ((⟨1, 0, x0, (⟨(⟨0, 0, 0⟩ : C), false, false⟩ : Rf), (⟨(⟨0, 0, 0⟩ : C), false, false⟩ : Rf), [], []⟩ : Nd))
def tree_Cell (x0 : Rf) : Option (Nd) :=
 some ((⟨2, 0, (⟨0, 0, []⟩ : V), x0, (⟨(⟨0, 0, 0⟩ : C), false, false⟩ : Rf), [], []⟩ : Nd))
def tree_Apply (x0 : Int) (x1 : List (Nd)) : Option (Nd) :=
 chk (([] : List (Nd)).length + x1.length ≤ 9223372036854775807 ∧ (([] : List (Nd)).length + x1.length) * 152 ≤ 140737488355328) <|
 bindv (([] : List (Nd)) ++ x1 : List (Nd)) fun z7_4 =>
 some ((⟨8, x0, (⟨0, 0, []⟩ : V), (⟨(⟨0, 0, 0⟩ : C), false, false⟩ : Rf), (⟨(⟨0, 0, 0⟩ : C), false, false⟩ : Rf), [], z7_4⟩ : Nd))
def tree_Unary (x0 : Int) (x1 : Nd) : Option (Nd) :=
 some ((⟨x0, 0, (⟨0, 0, []⟩ : V), (⟨(⟨0, 0, 0⟩ : C), false, false⟩ : Rf), (⟨(⟨0, 0, 0⟩ : C), false, false⟩ : Rf), [], [x1]⟩ : Nd))
def tree_Binary (x0 : Int) (x1 : Nd) (x2 : Nd) : Option (Nd) :=
 some ((⟨7, x0, (⟨0, 0, []⟩ : V), (⟨(⟨0, 0, 0⟩ : C), false, false⟩ : Rf), (⟨(⟨0, 0, 0⟩ : C), false, false⟩ : Rf), [], [x1, x2]⟩ : Nd))
def tree_Span (x0 : Rf) (x1 : Rf) : Option (Nd) :=
 some (⟨3, 0, (⟨0, 0, []⟩ : V), x0, x1, [], []⟩ : Nd)
def addr_Order (x0 : C) (x1 : C) : Option (C × C × Bool) :=
 bindv (!decide (x0.s = x1.s) : Bool) fun z11_6 =>
 if z11_6 = true then (
  some (x0, x1, false)
 ) else (
  bindv (min x0.c x1.c : Int) fun z20_8 =>
  bindv (min x0.r x1.r : Int) fun z25_9 =>
  bindv (max x0.c x1.c : Int) fun z33_10 =>
  bindv (max x0.r x1.r : Int) fun z38_11 =>
  some ((⟨x0.s, z20_8, z25_9⟩ : C), (⟨x0.s, z33_10, z38_11⟩ : C), true)
 )
def reckonerref13_Place_At (x0 : List V) (x1 : C) : Option (V) :=
 bindv (decide (x1.s < 0) : Bool) fun z7_4 =>
 bindv (decide (1 < x1.s) : Bool) fun z11_5 =>
 bindv (z7_4 || z11_5 : Bool) fun z12_6 =>
 bindv (decide (x1.c < 0) : Bool) fun z16_7 =>
 bindv (z12_6 || z16_7 : Bool) fun z17_8 =>
 bindv (decide (7 < x1.c) : Bool) fun z21_9 =>
 bindv (z17_8 || z21_9 : Bool) fun z22_10 =>
 bindv (decide (x1.r < 0) : Bool) fun z26_11 =>
 bindv (z22_10 || z26_11 : Bool) fun z27_12 =>
 bindv (decide (7 < x1.r) : Bool) fun z31_13 =>
 bindv (z27_12 || z31_13 : Bool) fun z32_14 =>
 if z32_14 = true then (
  some (⟨0, 0, []⟩ : V)
 ) else (
  bindv (IntKind.wrap .i64 (8 * x1.r) : Int) fun z39_16 =>
  bindv (IntKind.wrap .i64 (z39_16 + x1.c) : Int) fun z42_17 =>
  chk ((0 : Int) ≤ x1.s ∧ x1.s < (2 : Int)) <|
  chk ((0 : Int) ≤ z42_17 ∧ z42_17 < (64 : Int)) <|
  bindv (gel x0 (64 * x1.s + z42_17) : V) fun z47_20 =>
  some z47_20
 )
def reckonerref13_Place_Value (x0 : List V) (x1 : C) : Option (V × C) :=
 obind (reckonerref13_Place_At x0 x1) fun y9_4 =>
 bindv (decide (y9_4.k = 4) : Bool) fun z12_7 =>
 if z12_7 = true then (
  some (y9_4, x1)
 ) else (
  some (y9_4, (⟨0, 0, 0⟩ : C))
 )
def reckonerref13_Place_Name (x0 : List V) (x1 : List UInt8) : Option (Nd × Bool) :=
 bindv (decide (x1 = ([82, 65, 84, 69] : List UInt8)) : Bool) fun z13_4 =>
 if z13_4 = true then (
  some ((⟨2, 0, (⟨0, 0, []⟩ : V), (⟨(⟨0, 0, 0⟩ : C), false, false⟩ : Rf), (⟨(⟨0, 0, 0⟩ : C), false, false⟩ : Rf), [], []⟩ : Nd), true)
 ) else (
  bindv (decide (x1 = ([76, 73, 83, 84] : List UInt8)) : Bool) fun z16_7 =>
  if z16_7 = true then (
   some ((⟨3, 0, (⟨0, 0, []⟩ : V), (⟨(⟨0, 0, 0⟩ : C), false, false⟩ : Rf), (⟨(⟨0, 1, 1⟩ : C), false, false⟩ : Rf), [], []⟩ : Nd), true)
  ) else (
   some ((⟨0, 0, (⟨0, 0, []⟩ : V), (⟨(⟨0, 0, 0⟩ : C), false, false⟩ : Rf), (⟨(⟨0, 0, 0⟩ : C), false, false⟩ : Rf), [], []⟩ : Nd), false)
  )
 )
def reckonerlaw13_Place (x0 : List (V)) : Option (List V) :=
 bindv ((fun s3 =>
  some s3
  ) : ((List V)) → Option (List V)) fun J3 =>
 bindv (fun (n5 : (Int × (List V)) → Option (List V)) (s5 : Int × (List V)) =>
  bindv (decide (s5.1 < (x0.length : Int)) : Bool) fun z11_7 =>
  if z11_7 = true then (
   chk ((0 : Int) ≤ s5.1 ∧ s5.1 < (x0.length : Int)) <|
   bindv (gel x0 s5.1 : V) fun z13_12 =>
   bindv (decide (s5.1 < 128) : Bool) fun z16_14 =>
   bindv (decide ((z13_12.s.length : Int) ≤ 64) : Bool) fun z21_15 =>
   bindv (z16_14 && z21_15 : Bool) fun z22_16 =>
   obind (if z22_16 = true then value_Right z13_12 else some default) fun y25_17 =>
   bindv (z22_16 && y25_17 : Bool) fun z26_18 =>
   if z26_18 = true then (
    bindv (bits .and .i64 s5.1 1 : Int) fun z29_20 =>
    bindv (IntKind.wrap .i64 (Int.tdiv s5.1 2) : Int) fun z31_21 =>
    chk ((0 : Int) ≤ z29_20 ∧ z29_20 < (2 : Int)) <|
    chk ((0 : Int) ≤ z31_21 ∧ z31_21 < (64 : Int)) <|
    bindv (s5.2.set (Int.toNat (64 * z29_20 + z31_21)) z13_12 : List V) fun zp0_24 =>
    bindv (IntKind.wrap .i64 (s5.1 + 1) : Int) fun z37_25 =>
    n5 (z37_25, zp0_24)
   ) else (
    bindv (IntKind.wrap .i64 (s5.1 + 1) : Int) fun z37_26 =>
    n5 (z37_26, s5.2)
   )
  ) else (
   J3 s5.2
  )
  ) fun B5 =>
 loopF B5 KK (0, zeroPl)
def eval_Area (x0 : List V) (x1 : Nd) : Option (C × C × Bool) :=
 bindv ((fun s5 =>
  bindv (decide (s5.1 = 3) : Bool) fun z24_9 =>
  if z24_9 = true then (
   obind (addr_Order (⟨s5.2.2.2.2.2.1, s5.2.2.2.2.2.2.1, s5.2.2.2.2.2.2.2.1⟩ : C) (⟨s5.2.2.2.2.2.2.2.2.2.2.1, s5.2.2.2.2.2.2.2.2.2.2.2.1, s5.2.2.2.2.2.2.2.2.2.2.2.2.1⟩ : C)) fun y31_11 =>
   some (y31_11.1, y31_11.2.1, y31_11.2.2)
  ) else (
   bindv (decide (s5.1 = 2) : Bool) fun z36_12 =>
   if z36_12 = true then (
    some ((⟨s5.2.2.2.2.2.1, s5.2.2.2.2.2.2.1, s5.2.2.2.2.2.2.2.1⟩ : C), (⟨s5.2.2.2.2.2.1, s5.2.2.2.2.2.2.1, s5.2.2.2.2.2.2.2.1⟩ : C), true)
   ) else (
    some ((⟨0, 0, 0⟩ : C), (⟨0, 0, 0⟩ : C), false)
   )
  )
  ) : (Int × Int × Int × Int × (List UInt8) × Int × Int × Int × Bool × Bool × Int × Int × Int × Bool × Bool × (List UInt8) × (List (Nd))) → Option (C × C × Bool)) fun J5 =>
 bindv (decide (x1.k = 4) : Bool) fun z11_14 =>
 if z11_14 = true then (
  obind (reckonerref13_Place_Name x0 x1.nm) fun y16_16 =>
  if y16_16.2 = true then (
   J5 (y16_16.1.k, y16_16.1.op, y16_16.1.v.k, y16_16.1.v.n, y16_16.1.v.s, y16_16.1.a.c.s, y16_16.1.a.c.c, y16_16.1.a.c.r, y16_16.1.a.ac, y16_16.1.a.ar, y16_16.1.b.c.s, y16_16.1.b.c.c, y16_16.1.b.c.r, y16_16.1.b.ac, y16_16.1.b.ar, y16_16.1.nm, y16_16.1.l)
  ) else (
   J5 (x1.k, x1.op, x1.v.k, x1.v.n, x1.v.s, x1.a.c.s, x1.a.c.c, x1.a.c.r, x1.a.ac, x1.a.ar, x1.b.c.s, x1.b.c.c, x1.b.c.r, x1.b.ac, x1.b.ar, x1.nm, x1.l)
  )
 ) else (
  J5 (x1.k, x1.op, x1.v.k, x1.v.n, x1.v.s, x1.a.c.s, x1.a.c.c, x1.a.c.r, x1.a.ac, x1.a.ar, x1.b.c.s, x1.b.c.c, x1.b.c.r, x1.b.ac, x1.b.ar, x1.nm, x1.l)
 )
def eval_run_made (x0 : Rn) (x1 : V) : Option (Gt) :=
 some (⟨x1, x0.c⟩ : Gt)
def eval_run_cell (x0 : Rn) (x1 : C) (m0 : List (C × Bool)) : Option ((Gt) × List (C × Bool)) :=
 bindv (mput m0 x1 true : List (C × Bool)) fun zm0_3 =>
 obind (reckonerref13_Place_Value x0.p x1) fun y18_4 =>
 some ((⟨y18_4.1, y18_4.2⟩ : Gt), zm0_3)
end Go.Sp
end
