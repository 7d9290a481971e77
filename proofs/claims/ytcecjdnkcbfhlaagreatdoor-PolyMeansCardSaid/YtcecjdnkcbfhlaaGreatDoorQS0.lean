/- Joined texts. -/
import Derived.Lib.Fields
import Derived.Lib.Index
import Derived.Lib.Join
import Derived.Lib.Replace
import Derived.Lib.Strings
import Derived.Lib.Bytealg
import Derived.Lib.Repeat
import Derived.Lib.BitFns
import Derived.Lib.ItoaNum
import Derived.Test.YtcecjdnkcbfhlaaGreatDoorQL0
import Derived.Test.YtcecjdnkcbfhlaaGreatDoorQL1
set_option linter.unusedSimpArgs false
set_option linter.unusedVariables false
set_option linter.unusedSectionVars false
section
namespace Go.Sp
open Go.Stp Go.ValP
def text0 : List UInt8 := [73, 70, 50, 51, 32, 73, 70, 69, 82, 82, 79, 82, 50, 50, 32, 65, 78, 68, 49, 57, 32, 79, 82, 49, 57, 32, 67, 72, 79, 79, 83, 69, 50, 57, 32, 65, 66, 83, 49, 49, 32, 83, 73, 71, 78, 49, 49, 32, 73, 78, 84, 49, 49, 32, 82, 79, 85, 78, 68, 50, 50, 32, 77, 79, 68, 50, 50, 32, 80, 79, 87, 69, 82, 50, 50, 32, 81, 85, 79, 84, 73, 69, 78, 84, 50, 50, 32, 71, 67, 68, 50, 50, 32, 76, 67, 77, 50, 50, 32, 70, 65, 67, 84, 49, 49, 32, 69, 86, 69, 78, 49, 49, 32, 79, 68, 68, 49, 49, 32, 84, 82, 85, 78, 67, 49, 49, 32, 77, 73, 78, 49, 57, 32, 77, 65, 88, 49, 57, 32, 83, 85, 77, 49, 57, 32, 80, 82, 79, 68, 85, 67, 84, 49, 57, 32, 67, 79, 85, 78, 84, 49, 57, 32, 67, 79, 85, 78, 84, 65, 49, 57, 32, 67, 79, 85, 78, 84, 66, 76, 65, 78, 75, 49, 49, 32, 65, 86, 69, 82, 65, 71, 69, 49, 57, 32, 83, 85, 77, 73, 70, 50, 50, 32, 67, 79, 85, 78, 84, 73, 70, 50, 50, 32, 83, 85, 77, 80, 82, 79, 68, 85, 67, 84, 50, 50, 32, 76, 69, 78, 49, 49, 32, 76, 69, 70, 84, 50, 50, 32, 82, 73, 71, 72, 84, 50, 50, 32, 77, 73, 68, 51, 51, 32, 85, 80, 80, 69, 82, 49, 49, 32, 76, 79, 87, 69, 82, 49, 49, 32, 84, 82, 73, 77, 49, 49, 32, 67, 79, 78, 67, 65, 84, 49, 57, 32, 82, 69, 80, 84, 50, 50, 32, 70, 73, 78, 68, 50, 50, 32, 83, 85, 66, 83, 84, 73, 84, 85, 84, 69, 51, 51, 32, 69, 88, 65, 67, 84, 50, 50, 32, 86, 65, 76, 85, 69, 49, 49, 32, 78, 79, 84, 49, 49, 32, 73, 83, 78, 85, 77, 66, 69, 82, 49, 49, 32, 73, 83, 84, 69, 88, 84, 49, 49, 32, 73, 83, 66, 76, 65, 78, 75, 49, 49, 32, 73, 83, 69, 82, 82, 79, 82, 49, 49, 32, 73, 83, 76, 79, 71, 73, 67, 65, 76, 49, 49, 32, 78, 65, 48, 48, 32, 73, 78, 68, 69, 88, 51, 51, 32, 77, 65, 84, 67, 72, 50, 50, 32, 86, 76, 79, 79, 75, 85, 80, 51, 51, 32, 82, 79, 87, 83, 49, 49, 32, 67, 79, 76, 85, 77, 78, 83, 49, 49]
def value_Num (x0 : Int) : Option (V) :=
 some (⟨1, x0, []⟩ : V)
def value_Fail (x0 : Int) : Option (V) :=
 some (⟨4, x0, []⟩ : V)
def value_Bool (x0 : Bool) : Option (V) :=
 bindv ((fun s4 =>
  some (⟨3, s4, []⟩ : V)
  ) : (Int) → Option (V)) fun J4 =>
 if x0 = true then (
  J4 1
 ) else (
  J4 0
 )
def value_Text (x0 : List UInt8) : Option (V) :=
 bindv (decide (64 < (x0.length : Int)) : Bool) fun z5_3 =>
 if z5_3 = true then (
  obind (value_Fail (2 : Int)) fun y6_5 =>
  some y6_5
 ) else (
  some (⟨2, 0, x0⟩ : V)
 )
def value_Made (x0 : Int) (x1 : Bool) : Option (V) :=
 bindv (!x1 : Bool) fun z6_3 =>
 if z6_3 = true then (
  obind (value_Fail (5 : Int)) fun y7_5 =>
  some y7_5
 ) else (
  obind (value_Num x0) fun y9_6 =>
  some y9_6
 )
def value_Right (x0 : V) : Option (Bool) :=
 bindv (decide (x0.k = 0) : Bool) fun z6_4 =>
 if z6_4 = true then (
  bindv (decide (x0.n = 0) : Bool) fun z9_6 =>
  bindv (decide (x0.s = []) : Bool) fun z13_7 =>
  bindv (z9_6 && z13_7 : Bool) fun z14_8 =>
  some z14_8
 ) else (
  bindv (decide (x0.k = 1) : Bool) fun z16_9 =>
  if z16_9 = true then (
   bindv (!decide (x0.n = (-9223372036854775808)) : Bool) fun z19_11 =>
   bindv (decide (x0.s = []) : Bool) fun z23_12 =>
   bindv (z19_11 && z23_12 : Bool) fun z24_13 =>
   some z24_13
  ) else (
   bindv (decide (x0.k = 2) : Bool) fun z26_14 =>
   if z26_14 = true then (
    bindv (decide (x0.n = 0) : Bool) fun z29_16 =>
    bindv (decide ((x0.s.length : Int) ≤ 64) : Bool) fun z34_17 =>
    bindv (z29_16 && z34_17 : Bool) fun z35_18 =>
    some z35_18
   ) else (
    bindv (decide (x0.k = 3) : Bool) fun z37_19 =>
    if z37_19 = true then (
     bindv (bits .and .i64 x0.n 1 : Int) fun z40_21 =>
     bindv (decide (z40_21 = x0.n) : Bool) fun z43_22 =>
     bindv (decide (x0.s = []) : Bool) fun z47_23 =>
     bindv (z43_22 && z47_23 : Bool) fun z48_24 =>
     some z48_24
    ) else (
     bindv (decide (x0.k = 4) : Bool) fun z50_25 =>
     if z50_25 = true then (
      bindv (decide (1 ≤ x0.n) : Bool) fun z53_27 =>
      bindv (decide (x0.n ≤ 7) : Bool) fun z57_28 =>
      bindv (z53_27 && z57_28 : Bool) fun z58_29 =>
      bindv (decide (x0.s = []) : Bool) fun z62_30 =>
      bindv (z58_29 && z62_30 : Bool) fun z63_31 =>
      some z63_31
     ) else (
      some false
     )
    )
   )
  )
 )
def num_fits (x0 : Int) : Option (Bool) :=
 bindv (decide ((-9223372036854775807) ≤ x0) : Bool) fun z4_1 =>
 some z4_1
def num_Add (x0 : Int) (x1 : Int) : Option (Int × Bool) :=
 bindv (IntKind.wrap .i64 (x0 + x1) : Int) fun z9_1 =>
 obind (num_fits z9_1) fun y12_2 =>
 bindv (decide (x0 < z9_1) : Bool) fun z16_3 =>
 bindv (decide (0 < x1) : Bool) fun z18_4 =>
 bindv (z16_3 == z18_4 : Bool) fun z19_5 =>
 bindv (y12_2 && z19_5 : Bool) fun z20_6 =>
 some (z9_1, z20_6)
def num_abs (x0 : Int) : Option (Int) :=
 bindv (decide (x0 < 0) : Bool) fun z4_2 =>
 if z4_2 = true then (
  bindv (IntKind.wrap .u64 x0 : Int) fun z6_4 =>
  bindv (IntKind.wrap .u64 (-z6_4) : Int) fun z7_5 =>
  some z7_5
 ) else (
  bindv (IntKind.wrap .u64 x0 : Int) fun z9_6 =>
  some z9_6
 )
def num_signed (x0 : Int) (x1 : Bool) : Option (Int × Bool) :=
 bindv (decide (9223372036854775807 < x0) : Bool) fun z7_2 =>
 if z7_2 = true then (
  some (0, false)
 ) else (
  if x1 = true then (
   bindv (IntKind.wrap .i64 x0 : Int) fun z10_6 =>
   bindv (IntKind.wrap .i64 (-z10_6) : Int) fun z11_7 =>
   some (z11_7, true)
  ) else (
   bindv (IntKind.wrap .i64 x0 : Int) fun z13_8 =>
   some (z13_8, true)
  )
 )
def num_Of (x0 : Int) : Option (Int × Bool) :=
 bindv (decide (9223372036854 < x0) : Bool) fun z5_2 =>
 bindv (decide (x0 < (-9223372036854)) : Bool) fun z8_3 =>
 bindv (z5_2 || z8_3 : Bool) fun z9_4 =>
 if z9_4 = true then (
  some (0, false)
 ) else (
  bindv (IntKind.wrap .i64 (x0 * 1000000) : Int) fun z11_6 =>
  some (z11_6, true)
 )
def num_Whole (x0 : Int) : Option (Int × Bool) :=
 bindv (IntKind.wrap .i64 (Int.tdiv x0 1000000) : Int) fun z5_1 =>
 bindv (Int.tmod x0 1000000 : Int) fun z7_2 =>
 bindv (decide (z7_2 = 0) : Bool) fun z8_3 =>
 some (z5_1, z8_3)
def addr_Less (x0 : C) (x1 : C) : Option (Bool) :=
 bindv (!decide (x0.s = x1.s) : Bool) fun z9_4 =>
 if z9_4 = true then (
  bindv (decide (x0.s < x1.s) : Bool) fun z14_6 =>
  some z14_6
 ) else (
  bindv (!decide (x0.r = x1.r) : Bool) fun z19_8 =>
  if z19_8 = true then (
   bindv (decide (x0.r < x1.r) : Bool) fun z24_10 =>
   some z24_10
  ) else (
   bindv (decide (x0.c < x1.c) : Bool) fun z29_11 =>
   some z29_11
  )
 )
def addr_Right (x0 : C) : Option (Bool) :=
 bindv (decide (0 ≤ x0.s) : Bool) fun z5_2 =>
 bindv (decide (x0.s < 3) : Bool) fun z9_3 =>
 bindv (z5_2 && z9_3 : Bool) fun z10_4 =>
 bindv (decide (0 ≤ x0.c) : Bool) fun z14_5 =>
 bindv (z10_4 && z14_5 : Bool) fun z15_6 =>
 bindv (decide (x0.c < 26) : Bool) fun z19_7 =>
 bindv (z15_6 && z19_7 : Bool) fun z20_8 =>
 bindv (decide (0 ≤ x0.r) : Bool) fun z24_9 =>
 bindv (z20_8 && z24_9 : Bool) fun z25_10 =>
 bindv (decide (x0.r < 99) : Bool) fun z29_11 =>
 bindv (z25_10 && z29_11 : Bool) fun z30_12 =>
 some z30_12
def poly_less (x0 : List (C)) (x1 : List (C)) : Option (Int) :=
 bindv (!decide ((x0.length : Int) = (x1.length : Int)) : Bool) fun z10_2 =>
 if z10_2 = true then (
  bindv (IntKind.wrap .i64 ((x0.length : Int) - (x1.length : Int)) : Int) fun z15_4 =>
  some z15_4
 ) else (
  bindv ((fun s6 =>
   some 0
   ) : (Unit) → Option (Int)) fun J6 =>
  bindv (fun (n8 : (Int) → Option (Int)) (s8 : Int) =>
   bindv (decide (s8 < (x0.length : Int)) : Bool) fun z19_10 =>
   if z19_10 = true then (
    chk ((0 : Int) ≤ s8 ∧ s8 < (x0.length : Int)) <|
    bindv (gel x0 s8 : C) fun z23_16 =>
    chk ((0 : Int) ≤ s8 ∧ s8 < (x1.length : Int)) <|
    bindv (gel x1 s8 : C) fun z27_18 =>
    obind (addr_Less z23_16 z27_18) fun y29_19 =>
    if y29_19 = true then (
     some (-1)
    ) else (
     chk ((0 : Int) ≤ s8 ∧ s8 < (x1.length : Int)) <|
     bindv (gel x1 s8 : C) fun z32_22 =>
     chk ((0 : Int) ≤ s8 ∧ s8 < (x0.length : Int)) <|
     bindv (gel x0 s8 : C) fun z36_24 =>
     obind (addr_Less z32_22 z36_24) fun y38_25 =>
     if y38_25 = true then (
      some 1
     ) else (
      bindv (IntKind.wrap .i64 (s8 + 1) : Int) fun z39_27 =>
      n8 z39_27
     )
    )
   ) else (
    J6 ()
   )
   ) fun B8 =>
  loopF B8 KK 0
 )
def poly_norm_1 (x0 : T) (x1 : T) : Option (Int) :=
 obind (poly_less x0.v x1.v) fun y9_3 =>
 some y9_3
def poly_Mul_1 (x0 : C) (x1 : C) : Option (Int) :=
 obind (addr_Less x0 x1) fun y8_4 =>
 if y8_4 = true then (
  some (-1)
 ) else (
  obind (addr_Less x1 x0) fun y12_6 =>
  if y12_6 = true then (
   some 1
  ) else (
   some 0
  )
 )
def addr_PrintRef (x0 : Rf) (x1 : Int) : Option ((List UInt8)) :=
 bindv ((fun s3 =>
  bindv ((fun s5 =>
   bindv (IntKind.wrap .i64 (65 + x0.c.c) : Int) fun z26_6 =>
   bindv (IntKind.wrap .i32 z26_6 : Int) fun z27_7 =>
   chk ((0 : Int) ≤ z27_7 ∧ z27_7 < 128) <|
   bindv ([UInt8.ofNat (Int.toNat z27_7)] : List UInt8) fun z28_9 =>
   chk (s5.length + z28_9.length ≤ 9223372036854775807) <|
   bindv (s5 ++ z28_9 : List UInt8) fun z29_11 =>
   bindv ((fun s13 =>
    bindv (IntKind.wrap .i64 (x0.c.r + 1) : Int) fun z38_14 =>
    chk ((-9223372036854775808 : Int) ≤ z38_14 ∧ z38_14 ≤ 9223372036854775807) <|
    bindv (Lib.itoa z38_14 : (List UInt8)) fun z39_17 =>
    chk (s13.length + z39_17.length ≤ 9223372036854775807) <|
    bindv (s13 ++ z39_17 : List UInt8) fun z40_19 =>
    some z40_19
    ) : ((List UInt8)) → Option ((List UInt8))) fun J13 =>
   if x0.ar = true then (
    chk (z29_11.length + ([36] : List UInt8).length ≤ 9223372036854775807) <|
    bindv (z29_11 ++ ([36] : List UInt8) : List UInt8) fun z33_22 =>
    J13 z33_22
   ) else (
    J13 z29_11
   )
   ) : ((List UInt8)) → Option ((List UInt8))) fun J5 =>
  if x0.ac = true then (
   chk (s3.length + ([36] : List UInt8).length ≤ 9223372036854775807) <|
   bindv (s3 ++ ([36] : List UInt8) : List UInt8) fun z21_25 =>
   J5 z21_25
  ) else (
   J5 s3
  )
  ) : ((List UInt8)) → Option ((List UInt8))) fun J3 =>
 bindv (!decide (x0.c.s = x1) : Bool) fun z10_26 =>
 if z10_26 = true then (
  bindv (IntKind.wrap .i64 (x0.c.s + 1) : Int) fun z14_28 =>
  chk ((-9223372036854775808 : Int) ≤ z14_28 ∧ z14_28 ≤ 9223372036854775807) <|
  bindv (Lib.itoa z14_28 : (List UInt8)) fun z15_31 =>
  chk (([83] : List UInt8).length + z15_31.length ≤ 9223372036854775807) <|
  bindv (([83] : List UInt8) ++ z15_31 : List UInt8) fun z16_33 =>
  chk (z16_33.length + ([33] : List UInt8).length ≤ 9223372036854775807) <|
  bindv (z16_33 ++ ([33] : List UInt8) : List UInt8) fun z17_35 =>
  J3 z17_35
 ) else (
  J3 []
 )
def addr_Print (x0 : C) : Option ((List UInt8)) :=
 obind (addr_PrintRef (⟨x0, false, false⟩ : Rf) ((-1) : Int)) fun y5_2 =>
 some y5_2
def tree_Name (x0 : Int) : Option ((List UInt8)) :=
 chk (text0.length < 4294967281 ∧ (text0.all fun b => decide (b.toNat < 128)) = true) <|
 bindv (Lib.fields text0 : (List (List UInt8))) fun z4_3 =>
 bindv (decide (x0 < 1) : Bool) fun z6_6 =>
 bindv (decide ((z4_3.length : Int) < x0) : Bool) fun z11_7 =>
 bindv (z6_6 || z11_7 : Bool) fun z12_8 =>
 if z12_8 = true then (
  some []
 ) else (
  bindv (IntKind.wrap .i64 (x0 - 1) : Int) fun z15_10 =>
  chk ((0 : Int) ≤ z15_10 ∧ z15_10 < (z4_3.length : Int)) <|
  bindv (gel z4_3 z15_10 : List UInt8) fun z16_12 =>
  bindv (IntKind.wrap .i64 (x0 - 1) : Int) fun z20_13 =>
  chk ((0 : Int) ≤ z20_13 ∧ z20_13 < (z4_3.length : Int)) <|
  bindv (gel z4_3 z20_13 : List UInt8) fun z21_15 =>
  bindv (IntKind.wrap .i64 ((z21_15.length : Int) - 2) : Int) fun z24_16 =>
  chk ((0 : Int) ≤ z24_16 ∧ z24_16 ≤ (z16_12.length : Int)) <|
  bindv (cutS z16_12 0 z24_16 : List UInt8) fun z25_18 =>
  some z25_18
 )
def tree_Fits (x0 : Int) (x1 : Int) : Option (Bool) :=
 chk (text0.length < 4294967281 ∧ (text0.all fun b => decide (b.toNat < 128)) = true) <|
 bindv (Lib.fields text0 : (List (List UInt8))) fun z7_3 =>
 bindv (decide (x0 < 1) : Bool) fun z9_6 =>
 bindv (decide ((z7_3.length : Int) < x0) : Bool) fun z14_7 =>
 bindv (z9_6 || z14_7 : Bool) fun z15_8 =>
 if z15_8 = true then (
  some false
 ) else (
  bindv (IntKind.wrap .i64 (x0 - 1) : Int) fun z18_10 =>
  chk ((0 : Int) ≤ z18_10 ∧ z18_10 < (z7_3.length : Int)) <|
  bindv (gel z7_3 z18_10 : List UInt8) fun z19_12 =>
  bindv (IntKind.wrap .i64 ((z19_12.length : Int) - 2) : Int) fun z25_13 =>
  chk ((0 : Int) ≤ z25_13 ∧ z25_13 < (z19_12.length : Int)) <|
  bindv (bt z19_12 z25_13 : Int) fun z26_15 =>
  bindv (IntKind.wrap .u8 (z26_15 - 48) : Int) fun z27_16 =>
  bindv (IntKind.wrap .i64 z27_16 : Int) fun z28_17 =>
  bindv (decide (z28_17 ≤ x1) : Bool) fun z29_18 =>
  bindv (IntKind.wrap .i64 ((z19_12.length : Int) - 1) : Int) fun z35_19 =>
  chk (z29_18 = true → (0 : Int) ≤ z35_19 ∧ z35_19 < (z19_12.length : Int)) <|
  bindv (bt z19_12 z35_19 : Int) fun z36_21 =>
  bindv (IntKind.wrap .u8 (z36_21 - 48) : Int) fun z37_22 =>
  bindv (IntKind.wrap .i64 z37_22 : Int) fun z38_23 =>
  bindv (decide (x1 ≤ z38_23) : Bool) fun z39_24 =>
  bindv (z29_18 && z39_24 : Bool) fun z40_25 =>
  some z40_25
 )
def lists_numbers (x0 : List (V)) : Option ((List (Int))) :=
 bindv ((fun s2 =>
  some s2
  ) : ((List (Int))) → Option ((List (Int)))) fun J2 =>
 bindv (fun (n5 : (Int × (List (Int))) → Option ((List (Int)))) (s5 : Int × (List (Int))) =>
  bindv (decide (s5.1 < (x0.length : Int)) : Bool) fun z9_8 =>
  if z9_8 = true then (
   chk ((0 : Int) ≤ s5.1 ∧ s5.1 < (x0.length : Int)) <|
   bindv (gel x0 s5.1 : V) fun z10_13 =>
   bindv (decide (z10_13.k = 1) : Bool) fun z14_15 =>
   if z14_15 = true then (
    chk (s5.2.length + [z10_13.n].length ≤ 9223372036854775807 ∧ (s5.2.length + [z10_13.n].length) * 8 ≤ 140737488355328) <|
    bindv (s5.2 ++ [z10_13.n] : List (Int)) fun z19_20 =>
    bindv (IntKind.wrap .i64 (s5.1 + 1) : Int) fun z20_21 =>
    n5 (z20_21, z19_20)
   ) else (
    bindv (IntKind.wrap .i64 (s5.1 + 1) : Int) fun z20_22 =>
    n5 (z20_22, s5.2)
   )
  ) else (
   J2 s5.2
  )
  ) fun B5 =>
 loopF B5 KK (0, ([] : List (Int)))
def lists_Sum (x0 : List (V)) : Option (V) :=
 bindv ((fun s3 =>
  obind (value_Made s3.1 s3.2) fun y24_4 =>
  some y24_4
  ) : (Int × Bool) → Option (V)) fun J3 =>
 obind (lists_numbers x0) fun y8_5 =>
 bindv (fun (n8 : (Int × Bool × Int) → Option (V)) (s8 : Int × Bool × Int) =>
  bindv (decide (s8.2.2 < (y8_5.length : Int)) : Bool) fun z11_10 =>
  if z11_10 = true then (
   chk ((0 : Int) ≤ s8.2.2 ∧ s8.2.2 < (y8_5.length : Int)) <|
   bindv (gel y8_5 s8.2.2 : Int) fun z12_15 =>
   if s8.2.1 = true then (
    obind (num_Add s8.1 z12_15) fun y18_17 =>
    bindv (IntKind.wrap .i64 (s8.2.2 + 1) : Int) fun z21_18 =>
    n8 (y18_17.1, y18_17.2, z21_18)
   ) else (
    bindv (IntKind.wrap .i64 (s8.2.2 + 1) : Int) fun z21_19 =>
    n8 (s8.1, s8.2.1, z21_19)
   )
  ) else (
   J3 (s8.1, s8.2.1)
  )
  ) fun B8 =>
 loopF B8 KK (0, true, 0)
end Go.Sp
end
section
namespace Go.Sp
open Go.Stp Go.ValP
def bits_Div64 (x0 : Int) (x1 : Int) (x2 : Int) : Option (Int × Int) :=
 bindv ((fun s2 =>
  bindv ((fun s4 =>
   bindv (decide (x0 = 0) : Bool) fun z27_6 =>
   if z27_6 = true then (
    chk (x2 ≠ 0) <|
    bindv (IntKind.wrap .u64 (Int.tdiv x1 x2) : Int) fun z30_9 =>
    chk (x2 ≠ 0) <|
    bindv (Int.tmod x1 x2 : Int) fun z33_11 =>
    some (z30_9, z33_11)
   ) else (
    chk (0 ≤ x2 ∧ x2 ≤ 18446744073709551615) <|
    bindv (64 - (Lib.bitLen (Int.toNat x2) : Int) : Int) fun z35_14 =>
    bindv (IntKind.wrap .u64 z35_14 : Int) fun z36_15 =>
    chk ((0 : Int) ≤ z36_15) <|
    bindv (shlI .u64 x2 z36_15 : Int) fun z39_17 =>
    chk ((0 : Int) ≤ 32) <|
    bindv (shrI .u64 z39_17 32 : Int) fun z41_19 =>
    bindv (bits .and .u64 z39_17 4294967295 : Int) fun z43_20 =>
    chk ((0 : Int) ≤ z36_15) <|
    bindv (shlI .u64 x0 z36_15 : Int) fun z46_22 =>
    bindv (IntKind.wrap .u64 (64 - z36_15) : Int) fun z49_23 =>
    chk ((0 : Int) ≤ z49_23) <|
    bindv (shrI .u64 x1 z49_23 : Int) fun z50_25 =>
    bindv (bits .or .u64 z46_22 z50_25 : Int) fun z51_26 =>
    chk ((0 : Int) ≤ z36_15) <|
    bindv (shlI .u64 x1 z36_15 : Int) fun z54_28 =>
    chk ((0 : Int) ≤ 32) <|
    bindv (shrI .u64 z54_28 32 : Int) fun z56_30 =>
    bindv (bits .and .u64 z54_28 4294967295 : Int) fun z58_31 =>
    chk (z41_19 ≠ 0) <|
    bindv (IntKind.wrap .u64 (Int.tdiv z51_26 z41_19) : Int) fun z61_33 =>
    bindv (IntKind.wrap .u64 (z61_33 * z41_19) : Int) fun z65_34 =>
    bindv (IntKind.wrap .u64 (z51_26 - z65_34) : Int) fun z66_35 =>
    bindv ((fun s37 =>
     bindv (IntKind.wrap .u64 (z51_26 * 4294967296) : Int) fun z87_38 =>
     bindv (IntKind.wrap .u64 (z87_38 + z56_30) : Int) fun z89_39 =>
     bindv (IntKind.wrap .u64 (s37 * z39_17) : Int) fun z92_40 =>
     bindv (IntKind.wrap .u64 (z89_39 - z92_40) : Int) fun z93_41 =>
     chk (z41_19 ≠ 0) <|
     bindv (IntKind.wrap .u64 (Int.tdiv z93_41 z41_19) : Int) fun z96_43 =>
     bindv (IntKind.wrap .u64 (z96_43 * z41_19) : Int) fun z100_44 =>
     bindv (IntKind.wrap .u64 (z93_41 - z100_44) : Int) fun z101_45 =>
     bindv ((fun s47 =>
      bindv (IntKind.wrap .u64 (s37 * 4294967296) : Int) fun z122_48 =>
      bindv (IntKind.wrap .u64 (z122_48 + s47) : Int) fun z124_49 =>
      bindv (IntKind.wrap .u64 (z93_41 * 4294967296) : Int) fun z126_50 =>
      bindv (IntKind.wrap .u64 (z126_50 + z58_31) : Int) fun z128_51 =>
      bindv (IntKind.wrap .u64 (s47 * z39_17) : Int) fun z131_52 =>
      bindv (IntKind.wrap .u64 (z128_51 - z131_52) : Int) fun z132_53 =>
      chk ((0 : Int) ≤ z36_15) <|
      bindv (shrI .u64 z132_53 z36_15 : Int) fun z134_55 =>
      some (z124_49, z134_55)
      ) : (Int) → Option (Int × Int)) fun J47 =>
     bindv (fun (n56 : (Int × Int) → Option (Int × Int)) (s56 : Int × Int) =>
      bindv (decide (4294967296 ≤ s56.2) : Bool) fun z103_59 =>
      bindv (IntKind.wrap .u64 (s56.2 * z43_20) : Int) fun z107_60 =>
      bindv (IntKind.wrap .u64 (4294967296 * s56.1) : Int) fun z109_61 =>
      bindv (IntKind.wrap .u64 (z109_61 + z58_31) : Int) fun z111_62 =>
      bindv (decide (z111_62 < z107_60) : Bool) fun z112_63 =>
      bindv (z103_59 || z112_63 : Bool) fun z113_64 =>
      if z113_64 = true then (
       bindv (IntKind.wrap .u64 (s56.2 - 1) : Int) fun z115_67 =>
       bindv (IntKind.wrap .u64 (s56.1 + z41_19) : Int) fun z118_68 =>
       bindv (decide (4294967296 ≤ z118_68) : Bool) fun z120_69 =>
       if z120_69 = true then (
        J47 z115_67
       ) else (
        n56 (z118_68, z115_67)
       )
      ) else (
       J47 s56.2
      )
      ) fun B56 =>
     loopF B56 KK (z101_45, z96_43)
     ) : (Int) → Option (Int × Int)) fun J37 =>
    bindv (fun (n71 : (Int × Int) → Option (Int × Int)) (s71 : Int × Int) =>
     bindv (decide (4294967296 ≤ s71.1) : Bool) fun z68_74 =>
     bindv (IntKind.wrap .u64 (s71.1 * z43_20) : Int) fun z72_75 =>
     bindv (IntKind.wrap .u64 (4294967296 * s71.2) : Int) fun z74_76 =>
     bindv (IntKind.wrap .u64 (z74_76 + z56_30) : Int) fun z76_77 =>
     bindv (decide (z76_77 < z72_75) : Bool) fun z77_78 =>
     bindv (z68_74 || z77_78 : Bool) fun z78_79 =>
     if z78_79 = true then (
      bindv (IntKind.wrap .u64 (s71.1 - 1) : Int) fun z80_82 =>
      bindv (IntKind.wrap .u64 (s71.2 + z41_19) : Int) fun z83_83 =>
      bindv (decide (4294967296 ≤ z83_83) : Bool) fun z85_84 =>
      if z85_84 = true then (
       J37 z80_82
      ) else (
       n71 (z80_82, z83_83)
      )
     ) else (
      J37 s71.1
     )
     ) fun B71 =>
    loopF B71 KK (z61_33, z66_35)
   )
   ) : (Unit) → Option (Int × Int)) fun J4 =>
  bindv (decide (x2 ≤ x0) : Bool) fun z24_86 =>
  if z24_86 = true then (
   none
  ) else (
   J4 ()
  )
  ) : (Unit) → Option (Int × Int)) fun J2 =>
 bindv (decide (x2 = 0) : Bool) fun z20_88 =>
 if z20_88 = true then (
  none
 ) else (
  J2 ()
 )
def num_scaled (x0 : Int) (x1 : Int) (x2 : Int) : Option (Int × Bool) :=
 chk ((0 ≤ x0 ∧ x0 ≤ 18446744073709551615) ∧ 0 ≤ x1 ∧ x1 ≤ 18446744073709551615) <|
 bindv ((x0 * x1 / 18446744073709551616, x0 * x1 % 18446744073709551616) : Int × Int) fun z15_3 =>
 bindv (decide (x2 ≤ z15_3.1) : Bool) fun z20_5 =>
 if z20_5 = true then (
  some (0, false)
 ) else (
  obind (bits_Div64 z15_3.1 z15_3.2 x2) fun y25_7 =>
  bindv ((fun s9 =>
   bindv (!decide (s9 = 0) : Bool) fun z37_10 =>
   bindv (IntKind.wrap .u64 (x2 - y25_7.2) : Int) fun z42_11 =>
   bindv (decide (y25_7.2 < z42_11) : Bool) fun z43_12 =>
   bindv (z37_10 || z43_12 : Bool) fun z44_13 =>
   some (s9, z44_13)
   ) : (Int) → Option (Int × Bool)) fun J9 =>
  bindv (IntKind.wrap .u64 (x2 - y25_7.2) : Int) fun z31_14 =>
  bindv (decide (z31_14 ≤ y25_7.2) : Bool) fun z32_15 =>
  if z32_15 = true then (
   bindv (IntKind.wrap .u64 (y25_7.1 + 1) : Int) fun z34_17 =>
   J9 z34_17
  ) else (
   J9 y25_7.1
  )
 )
def num_Mul (x0 : Int) (x1 : Int) : Option (Int × Bool) :=
 obind (num_abs x0) fun y10_1 =>
 obind (num_abs x1) fun y12_2 =>
 obind (num_scaled y10_1 y12_2 (1000000 : Int)) fun y13_3 =>
 bindv (!y13_3.2 : Bool) fun z17_5 =>
 if z17_5 = true then (
  some (0, false)
 ) else (
  bindv (decide (x0 < 0) : Bool) fun z20_7 =>
  bindv (decide (x1 < 0) : Bool) fun z22_8 =>
  bindv (!(z20_7 == z22_8) : Bool) fun z23_9 =>
  obind (num_signed y13_3.1 z23_9) fun y24_10 =>
  some (y24_10.1, y24_10.2)
 )
def lists_Product (x0 : List (V)) : Option (V) :=
 obind (lists_numbers x0) fun y9_2 =>
 bindv (decide ((y9_2.length : Int) = 0) : Bool) fun z12_5 =>
 if z12_5 = true then (
  obind (value_Num (0 : Int)) fun y13_7 =>
  some y13_7
 ) else (
  chk ((0 : Int) ≤ 0 ∧ 0 < (y9_2.length : Int)) <|
  bindv (gel y9_2 0 : Int) fun z15_9 =>
  bindv ((fun s11 =>
   obind (value_Made s11.1 s11.2) fun y34_12 =>
   some y34_12
   ) : (Int × Bool) → Option (V)) fun J11 =>
  chk ((0 : Int) ≤ (1 : Int) ∧ (1 : Int) ≤ (y9_2.length : Int) ∧ (y9_2.length : Int) ≤ (y9_2.length : Int)) <|
  bindv (cutL y9_2 (1 : Int) (y9_2.length : Int) : List (Int)) fun z18_14 =>
  bindv (fun (n17 : (Int × Bool × Int) → Option (V)) (s17 : Int × Bool × Int) =>
   bindv (decide (s17.2.2 < (z18_14.length : Int)) : Bool) fun z21_19 =>
   if z21_19 = true then (
    chk ((0 : Int) ≤ s17.2.2 ∧ s17.2.2 < (z18_14.length : Int)) <|
    bindv (gel z18_14 s17.2.2 : Int) fun z22_24 =>
    if s17.2.1 = true then (
     obind (num_Mul s17.1 z22_24) fun y28_26 =>
     bindv (IntKind.wrap .i64 (s17.2.2 + 1) : Int) fun z31_27 =>
     n17 (y28_26.1, y28_26.2, z31_27)
    ) else (
     bindv (IntKind.wrap .i64 (s17.2.2 + 1) : Int) fun z31_28 =>
     n17 (s17.1, s17.2.1, z31_28)
    )
   ) else (
    J11 (s17.1, s17.2.1)
   )
   ) fun B17 =>
  loopF B17 KK (z15_9, true, 0)
 )
def lists_SumProduct (x0 : List (V)) (x1 : List (V)) : Option (V) :=
 bindv (!decide ((x0.length : Int) = (x1.length : Int)) : Bool) fun z12_3 =>
 if z12_3 = true then (
  obind (value_Fail (2 : Int)) fun y13_5 =>
  some y13_5
 ) else (
  obind (value_Num (0 : Int)) fun y14_6 =>
  bindv ((fun s9 =>
   some (⟨s9.2.2.2.1, s9.2.2.2.2.1, s9.2.2.2.2.2⟩ : V)
   ) : (Int × Int × (List UInt8) × Int × Int × (List UInt8)) → Option (V)) fun J9 =>
  bindv (fun (n11 : (Int × Int × Int × (List UInt8) × Int × Int × (List UInt8)) → Option (V)) (s11 : Int × Int × Int × (List UInt8) × Int × Int × (List UInt8)) =>
   bindv (decide (s11.1 < (x0.length : Int)) : Bool) fun z18_13 =>
   if z18_13 = true then (
    chk ((0 : Int) ≤ s11.1 ∧ s11.1 < (x0.length : Int)) <|
    bindv (gel x0 s11.1 : V) fun z22_19 =>
    bindv (!decide (z22_19.k = 1) : Bool) fun z25_20 =>
    chk ((!z25_20) = true → (0 : Int) ≤ s11.1 ∧ s11.1 < (x1.length : Int)) <|
    bindv (gel x1 s11.1 : V) fun z29_22 =>
    bindv (!decide (z29_22.k = 1) : Bool) fun z32_23 =>
    bindv (z25_20 || z32_23 : Bool) fun z33_24 =>
    if z33_24 = true then (
     bindv (IntKind.wrap .i64 (s11.1 + 1) : Int) fun z65_26 =>
     n11 (z65_26, s11.2.1, s11.2.2.1, s11.2.2.2.1, s11.2.2.2.2.1, s11.2.2.2.2.2.1, s11.2.2.2.2.2.2)
    ) else (
     chk ((0 : Int) ≤ s11.1 ∧ s11.1 < (x0.length : Int)) <|
     bindv (gel x0 s11.1 : V) fun z37_28 =>
     chk ((0 : Int) ≤ s11.1 ∧ s11.1 < (x1.length : Int)) <|
     bindv (gel x1 s11.1 : V) fun z41_30 =>
     obind (lists_Product [z37_28, z41_30]) fun y44_31 =>
     obind (lists_Sum [(⟨s11.2.2.2.2.1, s11.2.2.2.2.2.1, s11.2.2.2.2.2.2⟩ : V), y44_31]) fun y46_32 =>
     chk ((0 : Int) ≤ s11.1 ∧ s11.1 < (x0.length : Int)) <|
     bindv (gel x0 s11.1 : V) fun z49_35 =>
     chk ((0 : Int) ≤ s11.1 ∧ s11.1 < (x1.length : Int)) <|
     bindv (gel x1 s11.1 : V) fun z53_37 =>
     obind (lists_Product [z49_35, z53_37]) fun y56_38 =>
     bindv (decide (y56_38.k = 4) : Bool) fun z59_40 =>
     if z59_40 = true then (
      some y56_38
     ) else (
      bindv (decide (y46_32.k = 4) : Bool) fun z63_42 =>
      if z63_42 = true then (
       some y46_32
      ) else (
       bindv (IntKind.wrap .i64 (s11.1 + 1) : Int) fun z65_44 =>
       n11 (z65_44, s11.2.1, s11.2.2.1, s11.2.2.2.1, y46_32.k, y46_32.n, y46_32.s)
      )
     )
    )
   ) else (
    J9 (s11.2.1, s11.2.2.1, s11.2.2.2.1, s11.2.2.2.2.1, s11.2.2.2.2.2.1, s11.2.2.2.2.2.2)
   )
   ) fun B11 =>
  loopF B11 KK (0, 0, 0, [], y14_6.k, y14_6.n, y14_6.s)
 )
def value_ToNum (x0 : V) : Option (V) :=
 bindv ((fun s6 =>
  if s6 = true then (
   some x0
  ) else (
   bindv (decide (x0.k = 0) : Bool) fun z14_8 =>
   if z14_8 = true then (
    obind (value_Num (0 : Int)) fun y15_10 =>
    some y15_10
   ) else (
    bindv (decide (x0.k = 3) : Bool) fun z17_11 =>
    if z17_11 = true then (
     bindv (IntKind.wrap .i64 (x0.n * 1000000) : Int) fun z20_13 =>
     obind (value_Num z20_13) fun y21_14 =>
     some y21_14
    ) else (
     none
    )
   )
  )
  ) : (Bool) → Option (V)) fun J6 =>
 bindv (decide (x0.k = 1) : Bool) fun z10_17 =>
 if z10_17 = true then (
  J6 z10_17
 ) else (
  bindv (decide (x0.k = 4) : Bool) fun z11_19 =>
  J6 z11_19
 )
def funcs_all (x0 : List (Arg)) : Option ((List (V))) :=
 bindv ((fun s2 =>
  some s2
  ) : ((List (V))) → Option ((List (V)))) fun J2 =>
 bindv (fun (n5 : (Int × (List (V))) → Option ((List (V)))) (s5 : Int × (List (V))) =>
  bindv (decide (s5.1 < (x0.length : Int)) : Bool) fun z9_8 =>
  if z9_8 = true then (
   chk ((0 : Int) ≤ s5.1 ∧ s5.1 < (x0.length : Int)) <|
   bindv (gel x0 s5.1 : Arg) fun z10_13 =>
   chk (s5.2.length + z10_13.l.length ≤ 9223372036854775807 ∧ (s5.2.length + z10_13.l.length) * 32 ≤ 140737488355328) <|
   bindv (s5.2 ++ z10_13.l : List (V)) fun z15_18 =>
   bindv (IntKind.wrap .i64 (s5.1 + 1) : Int) fun z16_19 =>
   n5 (z16_19, z15_18)
  ) else (
   J2 s5.2
  )
  ) fun B5 =>
 loopF B5 KK (0, ([] : List (V)))
def funcs_list (x0 : List UInt8) (x1 : List (Arg)) : Option (V) :=
 bindv ((fun s5 =>
  if s5 = true then (
   none
  ) else (
   bindv (decide (x0 = ([83, 85, 77] : List UInt8)) : Bool) fun z19_10 =>
   if z19_10 = true then (
    obind (funcs_all x1) fun y21_12 =>
    obind (lists_Sum y21_12) fun y22_14 =>
    some y22_14
   ) else (
    bindv (decide (x0 = ([80, 82, 79, 68, 85, 67, 84] : List UInt8)) : Bool) fun z24_15 =>
    if z24_15 = true then (
     obind (funcs_all x1) fun y26_17 =>
     obind (lists_Product y26_17) fun y27_19 =>
     some y27_19
    ) else (
     bindv (decide (x0 = ([67, 79, 85, 78, 84] : List UInt8)) : Bool) fun z29_20 =>
     if z29_20 = true then (
      none
     ) else (
      bindv (decide (x0 = ([67, 79, 85, 78, 84, 65] : List UInt8)) : Bool) fun z34_24 =>
      if z34_24 = true then (
       none
      ) else (
       bindv (decide (x0 = ([67, 79, 85, 78, 84, 66, 76, 65, 78, 75] : List UInt8)) : Bool) fun z39_28 =>
       if z39_28 = true then (
        none
       ) else (
        bindv (decide (x0 = ([65, 86, 69, 82, 65, 71, 69] : List UInt8)) : Bool) fun z44_32 =>
        if z44_32 = true then (
         none
        ) else (
         bindv (decide (x0 = ([67, 79, 85, 78, 84, 73, 70] : List UInt8)) : Bool) fun z49_36 =>
         if z49_36 = true then (
          none
         ) else (
          bindv (decide (x0 = ([83, 85, 77, 73, 70] : List UInt8)) : Bool) fun z60_41 =>
          if z60_41 = true then (
           none
          ) else (
           bindv (decide (x0 = ([83, 85, 77, 80, 82, 79, 68, 85, 67, 84] : List UInt8)) : Bool) fun z71_46 =>
           if z71_46 = true then (
            chk ((0 : Int) ≤ 0 ∧ 0 < (x1.length : Int)) <|
            bindv (gel x1 0 : Arg) fun z73_49 =>
            chk ((0 : Int) ≤ 1 ∧ 1 < (x1.length : Int)) <|
            bindv (gel x1 1 : Arg) fun z77_52 =>
            obind (lists_SumProduct z73_49.l z77_52.l) fun y80_54 =>
            some y80_54
           ) else (
            bindv (decide (x0 = ([77, 65, 84, 67, 72] : List UInt8)) : Bool) fun z82_55 =>
            if z82_55 = true then (
             none
            ) else (
             bindv (decide (x0 = ([82, 79, 87, 83] : List UInt8)) : Bool) fun z93_60 =>
             if z93_60 = true then (
              chk ((0 : Int) ≤ 0 ∧ 0 < (x1.length : Int)) <|
              bindv (gel x1 0 : Arg) fun z95_63 =>
              chk ((0 : Int) ≤ 0 ∧ 0 < (x1.length : Int)) <|
              bindv (gel x1 0 : Arg) fun z100_66 =>
              bindv (max z100_66.cols 1 : Int) fun z103_68 =>
              chk (z103_68 ≠ 0) <|
              bindv (IntKind.wrap .i64 (Int.tdiv (z95_63.l.length : Int) z103_68) : Int) fun z104_70 =>
              obind (num_Of z104_70) fun y105_71 =>
              obind (value_Made y105_71.1 y105_71.2) fun y108_72 =>
              some y108_72
             ) else (
              bindv (decide (x0 = ([67, 79, 76, 85, 77, 78, 83] : List UInt8)) : Bool) fun z110_73 =>
              if z110_73 = true then (
               chk ((0 : Int) ≤ 0 ∧ 0 < (x1.length : Int)) <|
               bindv (gel x1 0 : Arg) fun z112_76 =>
               obind (num_Of z112_76.cols) fun y115_78 =>
               obind (value_Made y115_78.1 y115_78.2) fun y118_79 =>
               some y118_79
              ) else (
               bindv (decide (x0 = ([78, 65] : List UInt8)) : Bool) fun z120_80 =>
               if z120_80 = true then (
                obind (value_Fail (6 : Int)) fun y121_82 =>
                some y121_82
               ) else (
                bindv (decide (x0 = ([73, 78, 68, 69, 88] : List UInt8)) : Bool) fun z123_83 =>
                if z123_83 = true then (
                 none
                ) else (
                 bindv (decide (x0 = ([86, 76, 79, 79, 75, 85, 80] : List UInt8)) : Bool) fun z152_88 =>
                 if z152_88 = true then (
                  none
                 ) else (
                  none
                 )
                )
               )
              )
             )
            )
           )
          )
         )
        )
       )
      )
     )
    )
   )
  )
  ) : (Bool) → Option (V)) fun J5 =>
 bindv (decide (x0 = ([77, 73, 78] : List UInt8)) : Bool) fun z11_96 =>
 if z11_96 = true then (
  J5 z11_96
 ) else (
  bindv (decide (x0 = ([77, 65, 88] : List UInt8)) : Bool) fun z12_98 =>
  J5 z12_98
 )
def funcs_Apply (x0 : Int) (x1 : List (Arg)) : Option (V) :=
 obind (tree_Name x0) fun y14_2 =>
 obind (tree_Fits x0 (x1.length : Int)) fun y18_4 =>
 bindv (!y18_4 : Bool) fun z19_5 =>
 if z19_5 = true then (
  obind (value_Fail (2 : Int)) fun y20_7 =>
  some y20_7
 ) else (
  bindv ((fun s11 =>
   if s11 = true then (
    none
   ) else (
    bindv ((fun s14 =>
     if s14 = true then (
      none
     ) else (
      bindv ((fun s17 =>
       if s17 = true then (
        none
       ) else (
        obind (funcs_list y14_2 x1) fun y128_22 =>
        some y128_22
       )
       ) : (Bool) → Option (V)) fun J17 =>
      bindv (decide (y14_2 = ([76, 69, 70, 84] : List UInt8)) : Bool) fun z96_23 =>
      if z96_23 = true then (
       J17 z96_23
      ) else (
       bindv (decide (y14_2 = ([82, 73, 71, 72, 84] : List UInt8)) : Bool) fun z97_25 =>
       if z97_25 = true then (
        J17 z97_25
       ) else (
        bindv (decide (y14_2 = ([77, 73, 68] : List UInt8)) : Bool) fun z98_27 =>
        if z98_27 = true then (
         J17 z98_27
        ) else (
         bindv (decide (y14_2 = ([82, 69, 80, 84] : List UInt8)) : Bool) fun z99_29 =>
         J17 z99_29
        )
       )
      )
     )
     ) : (Bool) → Option (V)) fun J14 =>
    bindv (decide (y14_2 = ([76, 69, 78] : List UInt8)) : Bool) fun z62_30 =>
    if z62_30 = true then (
     J14 z62_30
    ) else (
     bindv (decide (y14_2 = ([85, 80, 80, 69, 82] : List UInt8)) : Bool) fun z63_32 =>
     if z63_32 = true then (
      J14 z63_32
     ) else (
      bindv (decide (y14_2 = ([76, 79, 87, 69, 82] : List UInt8)) : Bool) fun z64_34 =>
      if z64_34 = true then (
       J14 z64_34
      ) else (
       bindv (decide (y14_2 = ([84, 82, 73, 77] : List UInt8)) : Bool) fun z65_36 =>
       if z65_36 = true then (
        J14 z65_36
       ) else (
        bindv (decide (y14_2 = ([86, 65, 76, 85, 69] : List UInt8)) : Bool) fun z66_38 =>
        if z66_38 = true then (
         J14 z66_38
        ) else (
         bindv (decide (y14_2 = ([67, 79, 78, 67, 65, 84] : List UInt8)) : Bool) fun z67_40 =>
         if z67_40 = true then (
          J14 z67_40
         ) else (
          bindv (decide (y14_2 = ([69, 88, 65, 67, 84] : List UInt8)) : Bool) fun z68_42 =>
          if z68_42 = true then (
           J14 z68_42
          ) else (
           bindv (decide (y14_2 = ([70, 73, 78, 68] : List UInt8)) : Bool) fun z69_44 =>
           if z69_44 = true then (
            J14 z69_44
           ) else (
            bindv (decide (y14_2 = ([83, 85, 66, 83, 84, 73, 84, 85, 84, 69] : List UInt8)) : Bool) fun z70_46 =>
            J14 z70_46
           )
          )
         )
        )
       )
      )
     )
    )
   )
   ) : (Bool) → Option (V)) fun J11 =>
  bindv (decide (y14_2 = ([65, 66, 83] : List UInt8)) : Bool) fun z23_47 =>
  if z23_47 = true then (
   J11 z23_47
  ) else (
   bindv (decide (y14_2 = ([83, 73, 71, 78] : List UInt8)) : Bool) fun z24_49 =>
   if z24_49 = true then (
    J11 z24_49
   ) else (
    bindv (decide (y14_2 = ([73, 78, 84] : List UInt8)) : Bool) fun z25_51 =>
    if z25_51 = true then (
     J11 z25_51
    ) else (
     bindv (decide (y14_2 = ([84, 82, 85, 78, 67] : List UInt8)) : Bool) fun z26_53 =>
     if z26_53 = true then (
      J11 z26_53
     ) else (
      bindv (decide (y14_2 = ([69, 86, 69, 78] : List UInt8)) : Bool) fun z27_55 =>
      if z27_55 = true then (
       J11 z27_55
      ) else (
       bindv (decide (y14_2 = ([79, 68, 68] : List UInt8)) : Bool) fun z28_57 =>
       if z28_57 = true then (
        J11 z28_57
       ) else (
        bindv (decide (y14_2 = ([70, 65, 67, 84] : List UInt8)) : Bool) fun z29_59 =>
        if z29_59 = true then (
         J11 z29_59
        ) else (
         bindv (decide (y14_2 = ([82, 79, 85, 78, 68] : List UInt8)) : Bool) fun z30_61 =>
         if z30_61 = true then (
          J11 z30_61
         ) else (
          bindv (decide (y14_2 = ([77, 79, 68] : List UInt8)) : Bool) fun z31_63 =>
          if z31_63 = true then (
           J11 z31_63
          ) else (
           bindv (decide (y14_2 = ([80, 79, 87, 69, 82] : List UInt8)) : Bool) fun z32_65 =>
           if z32_65 = true then (
            J11 z32_65
           ) else (
            bindv (decide (y14_2 = ([81, 85, 79, 84, 73, 69, 78, 84] : List UInt8)) : Bool) fun z33_67 =>
            if z33_67 = true then (
             J11 z33_67
            ) else (
             bindv (decide (y14_2 = ([71, 67, 68] : List UInt8)) : Bool) fun z34_69 =>
             if z34_69 = true then (
              J11 z34_69
             ) else (
              bindv (decide (y14_2 = ([76, 67, 77] : List UInt8)) : Bool) fun z35_71 =>
              J11 z35_71
             )
            )
           )
          )
         )
        )
       )
      )
     )
    )
   )
  )
 )
def funcs_Binary (x0 : Int) (x1 : V) (x2 : V) : Option (V) :=
 bindv (decide (6 ≤ x0) : Bool) fun z12_5 =>
 if z12_5 = true then (
  none
 ) else (
  bindv (decide (x0 = 5) : Bool) fun z35_7 =>
  if z35_7 = true then (
   none
  ) else (
   obind (value_ToNum x1) fun y43_9 =>
   obind (value_ToNum x2) fun y45_10 =>
   bindv (decide (y43_9.k = 4) : Bool) fun z48_14 =>
   if z48_14 = true then (
    some y43_9
   ) else (
    bindv (decide (y45_10.k = 4) : Bool) fun z52_17 =>
    if z52_17 = true then (
     some y45_10
    ) else (
     bindv (decide (x0 = 1) : Bool) fun z56_21 =>
     if z56_21 = true then (
      obind (num_Add y43_9.n y45_10.n) fun y61_23 =>
      obind (value_Made y61_23.1 y61_23.2) fun y64_24 =>
      some y64_24
     ) else (
      bindv (decide (x0 = 2) : Bool) fun z66_25 =>
      if z66_25 = true then (
       none
      ) else (
       bindv (decide (x0 = 3) : Bool) fun z76_27 =>
       if z76_27 = true then (
        obind (num_Mul y43_9.n y45_10.n) fun y81_29 =>
        obind (value_Made y81_29.1 y81_29.2) fun y84_30 =>
        some y84_30
       ) else (
        bindv (decide (y45_10.n = 0) : Bool) fun z87_32 =>
        if z87_32 = true then (
         obind (value_Fail (1 : Int)) fun y88_34 =>
         some y88_34
        ) else (
         none
        )
       )
      )
     )
    )
   )
  )
 )
def funcs_Bears (x0 : Int) : Option (Bool) :=
 obind (tree_Name x0) fun y4_2 =>
 bindv ((fun s5 =>
  if s5 = true then (
   some true
  ) else (
   some false
  )
  ) : (Bool) → Option (Bool)) fun J5 =>
 bindv (decide (y4_2 = ([67, 79, 85, 78, 84] : List UInt8)) : Bool) fun z6_7 =>
 if z6_7 = true then (
  J5 z6_7
 ) else (
  bindv (decide (y4_2 = ([67, 79, 85, 78, 84, 65] : List UInt8)) : Bool) fun z7_9 =>
  if z7_9 = true then (
   J5 z7_9
  ) else (
   bindv (decide (y4_2 = ([67, 79, 85, 78, 84, 66, 76, 65, 78, 75] : List UInt8)) : Bool) fun z8_11 =>
   if z8_11 = true then (
    J5 z8_11
   ) else (
    bindv (decide (y4_2 = ([73, 83, 78, 85, 77, 66, 69, 82] : List UInt8)) : Bool) fun z9_13 =>
    if z9_13 = true then (
     J5 z9_13
    ) else (
     bindv (decide (y4_2 = ([73, 83, 84, 69, 88, 84] : List UInt8)) : Bool) fun z10_15 =>
     if z10_15 = true then (
      J5 z10_15
     ) else (
      bindv (decide (y4_2 = ([73, 83, 66, 76, 65, 78, 75] : List UInt8)) : Bool) fun z11_17 =>
      if z11_17 = true then (
       J5 z11_17
      ) else (
       bindv (decide (y4_2 = ([73, 83, 69, 82, 82, 79, 82] : List UInt8)) : Bool) fun z12_19 =>
       if z12_19 = true then (
        J5 z12_19
       ) else (
        bindv (decide (y4_2 = ([73, 83, 76, 79, 71, 73, 67, 65, 76] : List UInt8)) : Bool) fun z13_21 =>
        if z13_21 = true then (
         J5 z13_21
        ) else (
         bindv (decide (y4_2 = ([82, 79, 87, 83] : List UInt8)) : Bool) fun z14_23 =>
         if z14_23 = true then (
          J5 z14_23
         ) else (
          bindv (decide (y4_2 = ([67, 79, 76, 85, 77, 78, 83] : List UInt8)) : Bool) fun z15_25 =>
          J5 z15_25
         )
        )
       )
      )
     )
    )
   )
  )
 )
end Go.Sp
end
section
namespace Go.Sp
open Go.Stp Go.ValP
def tree_Value (x0 : V) : Option (Nd) :=
 some ((⟨1, 0, x0, (⟨(⟨0, 0, 0⟩ : C), false, false⟩ : Rf), (⟨(⟨0, 0, 0⟩ : C), false, false⟩ : Rf), [], []⟩ : Nd))
def tree_Cell (x0 : Rf) : Option (Nd) :=
 some ((⟨2, 0, (⟨0, 0, []⟩ : V), x0, (⟨(⟨0, 0, 0⟩ : C), false, false⟩ : Rf), [], []⟩ : Nd))
def tree_Apply (x0 : Int) (x1 : List (Nd)) : Option (Nd) :=
 chk (([] : List (Nd)).length + x1.length ≤ 9223372036854775807 ∧ (([] : List (Nd)).length + x1.length) * 152 ≤ 140737488355328) <|
 bindv (([] : List (Nd)) ++ x1 : List (Nd)) fun z7_4 =>
 some ((⟨8, x0, (⟨0, 0, []⟩ : V), (⟨(⟨0, 0, 0⟩ : C), false, false⟩ : Rf), (⟨(⟨0, 0, 0⟩ : C), false, false⟩ : Rf), [], z7_4⟩ : Nd))
def tree_Unary (x0 : Int) (x1 : Nd) : Option (Nd) :=
 some ((⟨x0, 0, (⟨0, 0, []⟩ : V), (⟨(⟨0, 0, 0⟩ : C), false, false⟩ : Rf), (⟨(⟨0, 0, 0⟩ : C), false, false⟩ : Rf), [], [x1]⟩ : Nd))
def tree_Binary (x0 : Int) (x1 : Nd) (x2 : Nd) : Option (Nd) :=
 some ((⟨7, x0, (⟨0, 0, []⟩ : V), (⟨(⟨0, 0, 0⟩ : C), false, false⟩ : Rf), (⟨(⟨0, 0, 0⟩ : C), false, false⟩ : Rf), [], [x1, x2]⟩ : Nd))
def tree_Span (x0 : Rf) (x1 : Rf) : Option (Nd) :=
 some (⟨3, 0, (⟨0, 0, []⟩ : V), x0, x1, [], []⟩ : Nd)
def addr_Order (x0 : C) (x1 : C) : Option (C × C × Bool) :=
 bindv (!decide (x0.s = x1.s) : Bool) fun z11_6 =>
 if z11_6 = true then (
  some (x0, x1, false)
 ) else (
  bindv (min x0.c x1.c : Int) fun z20_8 =>
  bindv (min x0.r x1.r : Int) fun z25_9 =>
  bindv (max x0.c x1.c : Int) fun z33_10 =>
  bindv (max x0.r x1.r : Int) fun z38_11 =>
  some ((⟨x0.s, z20_8, z25_9⟩ : C), (⟨x0.s, z33_10, z38_11⟩ : C), true)
 )
def reckonerref13_Place_At (x0 : List V) (x1 : C) : Option (V) :=
 bindv (decide (x1.s < 0) : Bool) fun z7_4 =>
 bindv (decide (1 < x1.s) : Bool) fun z11_5 =>
 bindv (z7_4 || z11_5 : Bool) fun z12_6 =>
 bindv (decide (x1.c < 0) : Bool) fun z16_7 =>
 bindv (z12_6 || z16_7 : Bool) fun z17_8 =>
 bindv (decide (7 < x1.c) : Bool) fun z21_9 =>
 bindv (z17_8 || z21_9 : Bool) fun z22_10 =>
 bindv (decide (x1.r < 0) : Bool) fun z26_11 =>
 bindv (z22_10 || z26_11 : Bool) fun z27_12 =>
 bindv (decide (7 < x1.r) : Bool) fun z31_13 =>
 bindv (z27_12 || z31_13 : Bool) fun z32_14 =>
 if z32_14 = true then (
  some (⟨0, 0, []⟩ : V)
 ) else (
  bindv (IntKind.wrap .i64 (8 * x1.r) : Int) fun z39_16 =>
  bindv (IntKind.wrap .i64 (z39_16 + x1.c) : Int) fun z42_17 =>
  chk ((0 : Int) ≤ x1.s ∧ x1.s < (2 : Int)) <|
  chk ((0 : Int) ≤ z42_17 ∧ z42_17 < (64 : Int)) <|
  bindv (gel x0 (64 * x1.s + z42_17) : V) fun z47_20 =>
  some z47_20
 )
def reckonerref13_Place_Value (x0 : List V) (x1 : C) : Option (V × C) :=
 obind (reckonerref13_Place_At x0 x1) fun y9_4 =>
 bindv (decide (y9_4.k = 4) : Bool) fun z12_7 =>
 if z12_7 = true then (
  some (y9_4, x1)
 ) else (
  some (y9_4, (⟨0, 0, 0⟩ : C))
 )
def reckonerref13_Place_Name (x0 : List V) (x1 : List UInt8) : Option (Nd × Bool) :=
 bindv (decide (x1 = ([82, 65, 84, 69] : List UInt8)) : Bool) fun z13_4 =>
 if z13_4 = true then (
  some ((⟨2, 0, (⟨0, 0, []⟩ : V), (⟨(⟨0, 0, 0⟩ : C), false, false⟩ : Rf), (⟨(⟨0, 0, 0⟩ : C), false, false⟩ : Rf), [], []⟩ : Nd), true)
 ) else (
  bindv (decide (x1 = ([76, 73, 83, 84] : List UInt8)) : Bool) fun z16_7 =>
  if z16_7 = true then (
   some ((⟨3, 0, (⟨0, 0, []⟩ : V), (⟨(⟨0, 0, 0⟩ : C), false, false⟩ : Rf), (⟨(⟨0, 1, 1⟩ : C), false, false⟩ : Rf), [], []⟩ : Nd), true)
  ) else (
   some ((⟨0, 0, (⟨0, 0, []⟩ : V), (⟨(⟨0, 0, 0⟩ : C), false, false⟩ : Rf), (⟨(⟨0, 0, 0⟩ : C), false, false⟩ : Rf), [], []⟩ : Nd), false)
  )
 )
def eval_Area (x0 : List V) (x1 : Nd) : Option (C × C × Bool) :=
 bindv ((fun s5 =>
  bindv (decide (s5.1 = 3) : Bool) fun z24_9 =>
  if z24_9 = true then (
   obind (addr_Order (⟨s5.2.2.2.2.2.1, s5.2.2.2.2.2.2.1, s5.2.2.2.2.2.2.2.1⟩ : C) (⟨s5.2.2.2.2.2.2.2.2.2.2.1, s5.2.2.2.2.2.2.2.2.2.2.2.1, s5.2.2.2.2.2.2.2.2.2.2.2.2.1⟩ : C)) fun y31_11 =>
   some (y31_11.1, y31_11.2.1, y31_11.2.2)
  ) else (
   bindv (decide (s5.1 = 2) : Bool) fun z36_12 =>
   if z36_12 = true then (
    some ((⟨s5.2.2.2.2.2.1, s5.2.2.2.2.2.2.1, s5.2.2.2.2.2.2.2.1⟩ : C), (⟨s5.2.2.2.2.2.1, s5.2.2.2.2.2.2.1, s5.2.2.2.2.2.2.2.1⟩ : C), true)
   ) else (
    some ((⟨0, 0, 0⟩ : C), (⟨0, 0, 0⟩ : C), false)
   )
  )
  ) : (Int × Int × Int × Int × (List UInt8) × Int × Int × Int × Bool × Bool × Int × Int × Int × Bool × Bool × (List UInt8) × (List (Nd))) → Option (C × C × Bool)) fun J5 =>
 bindv (decide (x1.k = 4) : Bool) fun z11_14 =>
 if z11_14 = true then (
  obind (reckonerref13_Place_Name x0 x1.nm) fun y16_16 =>
  if y16_16.2 = true then (
   J5 (y16_16.1.k, y16_16.1.op, y16_16.1.v.k, y16_16.1.v.n, y16_16.1.v.s, y16_16.1.a.c.s, y16_16.1.a.c.c, y16_16.1.a.c.r, y16_16.1.a.ac, y16_16.1.a.ar, y16_16.1.b.c.s, y16_16.1.b.c.c, y16_16.1.b.c.r, y16_16.1.b.ac, y16_16.1.b.ar, y16_16.1.nm, y16_16.1.l)
  ) else (
   J5 (x1.k, x1.op, x1.v.k, x1.v.n, x1.v.s, x1.a.c.s, x1.a.c.c, x1.a.c.r, x1.a.ac, x1.a.ar, x1.b.c.s, x1.b.c.c, x1.b.c.r, x1.b.ac, x1.b.ar, x1.nm, x1.l)
  )
 ) else (
  J5 (x1.k, x1.op, x1.v.k, x1.v.n, x1.v.s, x1.a.c.s, x1.a.c.c, x1.a.c.r, x1.a.ac, x1.a.ar, x1.b.c.s, x1.b.c.c, x1.b.c.r, x1.b.ac, x1.b.ar, x1.nm, x1.l)
 )
def eval_run_made (x0 : Rn) (x1 : V) : Option (Gt) :=
 some (⟨x1, x0.c⟩ : Gt)
def eval_run_cell (x0 : Rn) (x1 : C) (m0 : List (C × Bool)) : Option ((Gt) × List (C × Bool)) :=
 bindv (mput m0 x1 true : List (C × Bool)) fun zm0_3 =>
 obind (reckonerref13_Place_Value x0.p x1) fun y18_4 =>
 some ((⟨y18_4.1, y18_4.2⟩ : Gt), zm0_3)
end Go.Sp
end
section
namespace Go.Sp
open Go.Stp Go.ValP
def slices_swapRangeCmpFunc_Term (x0 : List (T)) (x1 : Int) (x2 : Int) (x3 : Int) (x4 : T → T → Option (Int)) : Option (List (T)) :=
 bindv (fun (n2 : (Int × (List (T))) → Option (List (T))) (s2 : Int × (List (T))) =>
  bindv (decide (s2.1 < x3) : Bool) fun z13_6 =>
  if z13_6 = true then (
   bindv (IntKind.wrap .i64 (x1 + s2.1) : Int) fun z19_9 =>
   bindv (IntKind.wrap .i64 (x2 + s2.1) : Int) fun z23_10 =>
   chk ((0 : Int) ≤ z23_10 ∧ z23_10 < (s2.2.length : Int)) <|
   chk ((0 : Int) ≤ z19_9 ∧ z19_9 < (s2.2.length : Int)) <|
   bindv ((s2.2.set (Int.toNat z19_9) (gel s2.2 z23_10)).set (Int.toNat z23_10) (gel s2.2 z19_9) : List (T)) fun zrow_14 =>
   bindv (IntKind.wrap .i64 (s2.1 + 1) : Int) fun z15_16 =>
   n2 (z15_16, zrow_14)
  ) else (
   some s2.2
  )
  ) fun B2 =>
 loopF B2 KK (0, x0)
def slices_rotateCmpFunc_Term (x0 : List (T)) (x1 : Int) (x2 : Int) (x3 : Int) (x4 : T → T → Option (Int)) : Option (List (T)) :=
 bindv (IntKind.wrap .i64 (x2 - x1) : Int) fun z14_1 =>
 bindv (IntKind.wrap .i64 (x3 - x2) : Int) fun z17_2 =>
 bindv ((fun s4 =>
  bindv (IntKind.wrap .i64 (x2 - s4.1) : Int) fun z53_6 =>
  obind (slices_swapRangeCmpFunc_Term s4.2 z53_6 x2 s4.1 x4) fun y57_7 =>
  some y57_7
  ) : (Int × (List (T))) → Option (List (T))) fun J4 =>
 bindv (fun (n9 : (Int × Int × (List (T))) → Option (List (T))) (s9 : Int × Int × (List (T))) =>
  bindv (!decide (s9.1 = s9.2.1) : Bool) fun z20_13 =>
  if z20_13 = true then (
   bindv (decide (s9.2.1 < s9.1) : Bool) fun z23_16 =>
   if z23_16 = true then (
    bindv (IntKind.wrap .i64 (x2 - s9.1) : Int) fun z27_18 =>
    obind (slices_swapRangeCmpFunc_Term s9.2.2 z27_18 x2 s9.2.1 x4) fun y31_19 =>
    bindv (IntKind.wrap .i64 (s9.1 - s9.2.1) : Int) fun z34_21 =>
    n9 (z34_21, s9.2.1, y31_19)
   ) else (
    bindv (IntKind.wrap .i64 (x2 - s9.1) : Int) fun z38_22 =>
    bindv (IntKind.wrap .i64 (x2 + s9.2.1) : Int) fun z41_23 =>
    bindv (IntKind.wrap .i64 (z41_23 - s9.1) : Int) fun z43_24 =>
    obind (slices_swapRangeCmpFunc_Term s9.2.2 z38_22 z43_24 s9.1 x4) fun y46_25 =>
    bindv (IntKind.wrap .i64 (s9.2.1 - s9.1) : Int) fun z49_27 =>
    n9 (s9.1, z49_27, y46_25)
   )
  ) else (
   J4 (s9.1, s9.2.2)
  )
  ) fun B9 =>
 loopF B9 KK (z14_1, z17_2, x0)
def slices_insertionSortCmpFunc_Term (x0 : List (T)) (x1 : Int) (x2 : Int) (x3 : T → T → Option (Int)) : Option (List (T)) :=
 bindv (IntKind.wrap .i64 (x1 + 1) : Int) fun z11_1 =>
 bindv (fun (n3 : (Int × (List (T))) → Option (List (T))) (s3 : Int × (List (T))) =>
  bindv (decide (s3.1 < x2) : Bool) fun z14_7 =>
  if z14_7 = true then (
   bindv ((fun s10 =>
    bindv (IntKind.wrap .i64 (s3.1 + 1) : Int) fun z16_12 =>
    n3 (z16_12, s10)
    ) : ((List (T))) → Option (List (T))) fun J10 =>
   bindv (fun (n14 : (Int × (List (T))) → Option (List (T))) (s14 : Int × (List (T))) =>
    bindv (decide (x1 < s14.1) : Bool) fun z20_18 =>
    chk (z20_18 = true → (0 : Int) ≤ s14.1 ∧ s14.1 < (s14.2.length : Int)) <|
    bindv (gel s14.2 s14.1 : T) fun z25_20 =>
    bindv (IntKind.wrap .i64 (s14.1 - 1) : Int) fun z29_22 =>
    chk (z20_18 = true → (0 : Int) ≤ z29_22 ∧ z29_22 < (s14.2.length : Int)) <|
    bindv (gel s14.2 z29_22 : T) fun z30_24 =>
    obind (if z20_18 = true then x3 z25_20 z30_24 else some default) fun y32_26 =>
    bindv (decide (y32_26 < 0) : Bool) fun z33_27 =>
    bindv (z20_18 && z33_27 : Bool) fun z34_28 =>
    if z34_28 = true then (
     bindv (IntKind.wrap .i64 (s14.1 - 1) : Int) fun z41_31 =>
     chk ((0 : Int) ≤ z41_31 ∧ z41_31 < (s14.2.length : Int)) <|
     chk ((0 : Int) ≤ s14.1 ∧ s14.1 < (s14.2.length : Int)) <|
     bindv ((s14.2.set (Int.toNat s14.1) (gel s14.2 z41_31)).set (Int.toNat z41_31) (gel s14.2 s14.1) : List (T)) fun zrow_35 =>
     bindv (IntKind.wrap .i64 (s14.1 - 1) : Int) fun z36_37 =>
     n14 (z36_37, zrow_35)
    ) else (
     J10 s14.2
    )
    ) fun B14 =>
   loopF B14 KK (s3.1, s3.2)
  ) else (
   some s3.2
  )
  ) fun B3 =>
 loopF B3 KK (z11_1, x0)
def slices_symMergeCmpFunc_Term_B (rec : List (T) → Int → Int → Int → (T → T → Option (Int)) → Option (List (T))) (x0 : List (T)) (x1 : Int) (x2 : Int) (x3 : Int) (x4 : T → T → Option (Int)) : Option (List (T)) :=
 bindv ((fun s2 =>
  bindv ((fun s5 =>
   bindv (IntKind.wrap .i64 (x1 + x3) : Int) fun z131_7 =>
   bindv (IntKind.wrap .u64 z131_7 : Int) fun z132_8 =>
   chk ((0 : Int) ≤ 1) <|
   bindv (shrI .u64 z132_8 1 : Int) fun z133_10 =>
   bindv (IntKind.wrap .i64 z133_10 : Int) fun z134_11 =>
   bindv (IntKind.wrap .i64 (z134_11 + x2) : Int) fun z137_12 =>
   bindv ((fun s14 =>
    bindv (IntKind.wrap .i64 (z137_12 - 1) : Int) fun z148_15 =>
    bindv ((fun s17 =>
     bindv (IntKind.wrap .i64 (z137_12 - s17) : Int) fun z177_18 =>
     bindv ((fun s20 =>
      bindv ((fun s23 =>
       bindv (decide (z134_11 < z177_18) : Bool) fun z208_25 =>
       bindv (decide (z177_18 < x3) : Bool) fun z212_26 =>
       bindv (z208_25 && z212_26 : Bool) fun z213_27 =>
       if z213_27 = true then (
        obind (rec s23 z134_11 z177_18 x3 x4) fun y219_29 =>
        some y219_29
       ) else (
        some s23
       )
       ) : ((List (T))) → Option (List (T))) fun J23 =>
      bindv (decide (x1 < s17) : Bool) fun z194_31 =>
      bindv (decide (s17 < z134_11) : Bool) fun z198_32 =>
      bindv (z194_31 && z198_32 : Bool) fun z199_33 =>
      if z199_33 = true then (
       obind (rec s20 x1 s17 z134_11 x4) fun y205_35 =>
       J23 y205_35
      ) else (
       J23 s20
      )
      ) : ((List (T))) → Option (List (T))) fun J20 =>
     bindv (decide (s17 < x2) : Bool) fun z180_37 =>
     bindv (decide (x2 < z177_18) : Bool) fun z184_38 =>
     bindv (z180_37 && z184_38 : Bool) fun z185_39 =>
     if z185_39 = true then (
      obind (slices_rotateCmpFunc_Term s5 s17 x2 z177_18 x4) fun y191_41 =>
      J20 y191_41
     ) else (
      J20 s5
     )
     ) : (Int) → Option (List (T))) fun J17 =>
    bindv (fun (n43 : (Int × Int) → Option (List (T))) (s43 : Int × Int) =>
     bindv (decide (s43.1 < s43.2) : Bool) fun z151_46 =>
     if z151_46 = true then (
      bindv (IntKind.wrap .i64 (s43.1 + s43.2) : Int) fun z154_49 =>
      bindv (IntKind.wrap .u64 z154_49 : Int) fun z155_50 =>
      chk ((0 : Int) ≤ 1) <|
      bindv (shrI .u64 z155_50 1 : Int) fun z156_52 =>
      bindv (IntKind.wrap .i64 z156_52 : Int) fun z157_53 =>
      bindv (IntKind.wrap .i64 (z148_15 - z157_53) : Int) fun z162_54 =>
      chk ((0 : Int) ≤ z162_54 ∧ z162_54 < (s5.length : Int)) <|
      bindv (gel s5 z162_54 : T) fun z163_56 =>
      chk ((0 : Int) ≤ z157_53 ∧ z157_53 < (s5.length : Int)) <|
      bindv (gel s5 z157_53 : T) fun z167_59 =>
      obind (x4 z163_56 z167_59) fun y169_61 =>
      bindv (decide (y169_61 < 0) : Bool) fun z170_62 =>
      bindv (!z170_62 : Bool) fun z171_63 =>
      if z171_63 = true then (
       bindv (IntKind.wrap .i64 (z157_53 + 1) : Int) fun z173_65 =>
       n43 (z173_65, s43.2)
      ) else (
       n43 (s43.1, z157_53)
      )
     ) else (
      J17 s43.1
     )
     ) fun B43 =>
    loopF B43 KK (s14.1, s14.2)
    ) : (Int × Int) → Option (List (T))) fun J14 =>
   bindv (decide (z134_11 < x2) : Bool) fun z140_66 =>
   if z140_66 = true then (
    bindv (IntKind.wrap .i64 (z137_12 - x3) : Int) fun z143_68 =>
    J14 (z143_68, z134_11)
   ) else (
    J14 (x1, x2)
   )
   ) : ((List (T))) → Option (List (T))) fun J5 =>
  bindv (IntKind.wrap .i64 (x3 - x2) : Int) fun z79_69 =>
  bindv (decide (z79_69 = 1) : Bool) fun z80_70 =>
  if z80_70 = true then (
   bindv ((fun s73 =>
    bindv (fun (n76 : (Int × (List (T))) → Option (List (T))) (s76 : Int × (List (T))) =>
     bindv (decide (s73 < s76.1) : Bool) fun z110_80 =>
     if z110_80 = true then (
      bindv (IntKind.wrap .i64 (s76.1 - 1) : Int) fun z117_83 =>
      chk ((0 : Int) ≤ z117_83 ∧ z117_83 < (s76.2.length : Int)) <|
      chk ((0 : Int) ≤ s76.1 ∧ s76.1 < (s76.2.length : Int)) <|
      bindv ((s76.2.set (Int.toNat s76.1) (gel s76.2 z117_83)).set (Int.toNat z117_83) (gel s76.2 s76.1) : List (T)) fun zrow_87 =>
      bindv (IntKind.wrap .i64 (s76.1 - 1) : Int) fun z112_89 =>
      n76 (z112_89, zrow_87)
     ) else (
      some s76.2
     )
     ) fun B76 =>
    loopF B76 KK (x2, s2)
    ) : (Int) → Option (List (T))) fun J73 =>
   bindv (fun (n90 : (Int × Int) → Option (List (T))) (s90 : Int × Int) =>
    bindv (decide (s90.1 < s90.2) : Bool) fun z85_93 =>
    if z85_93 = true then (
     bindv (IntKind.wrap .i64 (s90.1 + s90.2) : Int) fun z88_96 =>
     bindv (IntKind.wrap .u64 z88_96 : Int) fun z89_97 =>
     chk ((0 : Int) ≤ 1) <|
     bindv (shrI .u64 z89_97 1 : Int) fun z90_99 =>
     bindv (IntKind.wrap .i64 z90_99 : Int) fun z91_100 =>
     chk ((0 : Int) ≤ x2 ∧ x2 < (s2.length : Int)) <|
     bindv (gel s2 x2 : T) fun z95_102 =>
     chk ((0 : Int) ≤ z91_100 ∧ z91_100 < (s2.length : Int)) <|
     bindv (gel s2 z91_100 : T) fun z99_105 =>
     obind (x4 z95_102 z99_105) fun y101_107 =>
     bindv (decide (y101_107 < 0) : Bool) fun z102_108 =>
     bindv (!z102_108 : Bool) fun z103_109 =>
     if z103_109 = true then (
      bindv (IntKind.wrap .i64 (z91_100 + 1) : Int) fun z105_111 =>
      n90 (z105_111, s90.2)
     ) else (
      n90 (s90.1, z91_100)
     )
    ) else (
     J73 s90.1
    )
    ) fun B90 =>
   loopF B90 KK (x1, x2)
  ) else (
   J5 s2
  )
  ) : ((List (T))) → Option (List (T))) fun J2 =>
 bindv (IntKind.wrap .i64 (x2 - x1) : Int) fun z27_112 =>
 bindv (decide (z27_112 = 1) : Bool) fun z28_113 =>
 if z28_113 = true then (
  bindv ((fun s116 =>
   bindv (fun (n119 : (Int × (List (T))) → Option (List (T))) (s119 : Int × (List (T))) =>
    bindv (IntKind.wrap .i64 (s116 - 1) : Int) fun z57_123 =>
    bindv (decide (s119.1 < z57_123) : Bool) fun z58_124 =>
    if z58_124 = true then (
     bindv (IntKind.wrap .i64 (s119.1 + 1) : Int) fun z65_127 =>
     chk ((0 : Int) ≤ z65_127 ∧ z65_127 < (s119.2.length : Int)) <|
     chk ((0 : Int) ≤ s119.1 ∧ s119.1 < (s119.2.length : Int)) <|
     bindv ((s119.2.set (Int.toNat s119.1) (gel s119.2 z65_127)).set (Int.toNat z65_127) (gel s119.2 s119.1) : List (T)) fun zrow_131 =>
     bindv (IntKind.wrap .i64 (s119.1 + 1) : Int) fun z60_133 =>
     n119 (z60_133, zrow_131)
    ) else (
     some s119.2
    )
    ) fun B119 =>
   loopF B119 KK (x1, x0)
   ) : (Int) → Option (List (T))) fun J116 =>
  bindv (fun (n134 : (Int × Int) → Option (List (T))) (s134 : Int × Int) =>
   bindv (decide (s134.1 < s134.2) : Bool) fun z33_137 =>
   if z33_137 = true then (
    bindv (IntKind.wrap .i64 (s134.1 + s134.2) : Int) fun z36_140 =>
    bindv (IntKind.wrap .u64 z36_140 : Int) fun z37_141 =>
    chk ((0 : Int) ≤ 1) <|
    bindv (shrI .u64 z37_141 1 : Int) fun z38_143 =>
    bindv (IntKind.wrap .i64 z38_143 : Int) fun z39_144 =>
    chk ((0 : Int) ≤ z39_144 ∧ z39_144 < (x0.length : Int)) <|
    bindv (gel x0 z39_144 : T) fun z43_146 =>
    chk ((0 : Int) ≤ x1 ∧ x1 < (x0.length : Int)) <|
    bindv (gel x0 x1 : T) fun z47_149 =>
    obind (x4 z43_146 z47_149) fun y49_151 =>
    bindv (decide (y49_151 < 0) : Bool) fun z50_152 =>
    if z50_152 = true then (
     bindv (IntKind.wrap .i64 (z39_144 + 1) : Int) fun z52_154 =>
     n134 (z52_154, s134.2)
    ) else (
     n134 (s134.1, z39_144)
    )
   ) else (
    J116 s134.1
   )
   ) fun B134 =>
  loopF B134 KK (x2, x3)
 ) else (
  J2 x0
 )
def slices_symMergeCmpFunc_Term : Nat → List (T) → Int → Int → Int → (T → T → Option (Int)) → Option (List (T))
 | 0, _, _, _, _, _ => none
 | k + 1, x0, x1, x2, x3, x4 => slices_symMergeCmpFunc_Term_B (slices_symMergeCmpFunc_Term k) x0 x1 x2 x3 x4
end Go.Sp
end
section
namespace Go.Sp
open Go.Stp Go.ValP
def slices_stableCmpFunc_Term (x0 : List (T)) (x1 : Int) (x2 : T → T → Option (Int)) : Option (List (T)) :=
 bindv ((fun s2 =>
  obind (slices_insertionSortCmpFunc_Term s2.2 s2.1 x1 x2) fun y27_4 =>
  bindv (fun (n7 : (Int × (List (T))) → Option (List (T))) (s7 : Int × (List (T))) =>
   bindv (decide (s7.1 < x1) : Bool) fun z30_11 =>
   if z30_11 = true then (
    bindv (IntKind.wrap .i64 (2 * s7.1) : Int) fun z32_14 =>
    bindv ((fun s16 =>
     bindv ((fun s19 =>
      bindv (IntKind.wrap .i64 (s7.1 * 2) : Int) fun z62_21 =>
      n7 (z62_21, s19)
      ) : ((List (T))) → Option (List (T))) fun J19 =>
     bindv (IntKind.wrap .i64 (s16.1 + s7.1) : Int) fun z51_22 =>
     bindv (decide (z51_22 < x1) : Bool) fun z54_23 =>
     if z54_23 = true then (
      obind (slices_symMergeCmpFunc_Term (s16.2.length + 1) s16.2 s16.1 z51_22 x1 x2) fun y60_25 =>
      J19 y60_25
     ) else (
      J19 s16.2
     )
     ) : (Int × (List (T))) → Option (List (T))) fun J16 =>
    bindv (fun (n27 : (Int × Int × (List (T))) → Option (List (T))) (s27 : Int × Int × (List (T))) =>
     bindv (decide (s27.2.1 ≤ x1) : Bool) fun z35_31 =>
     if z35_31 = true then (
      bindv (IntKind.wrap .i64 (s27.1 + s7.1) : Int) fun z40_34 =>
      obind (slices_symMergeCmpFunc_Term (s27.2.2.length + 1) s27.2.2 s27.1 z40_34 s27.2.1 x2) fun y43_35 =>
      bindv (IntKind.wrap .i64 (2 * s7.1) : Int) fun z47_37 =>
      bindv (IntKind.wrap .i64 (s27.2.1 + z47_37) : Int) fun z48_38 =>
      n27 (s27.2.1, z48_38, y43_35)
     ) else (
      J16 (s27.1, s27.2.2)
     )
     ) fun B27 =>
    loopF B27 KK (0, z32_14, s7.2)
   ) else (
    some s7.2
   )
   ) fun B7 =>
  loopF B7 KK (20, y27_4)
  ) : (Int × (List (T))) → Option (List (T))) fun J2 =>
 bindv (fun (n39 : (Int × Int × (List (T))) → Option (List (T))) (s39 : Int × Int × (List (T))) =>
  bindv (decide (s39.2.1 ≤ x1) : Bool) fun z13_43 =>
  if z13_43 = true then (
   obind (slices_insertionSortCmpFunc_Term s39.2.2 s39.1 s39.2.1 x2) fun y18_46 =>
   bindv (IntKind.wrap .i64 (s39.2.1 + 20) : Int) fun z22_48 =>
   n39 (s39.2.1, z22_48, y18_46)
  ) else (
   J2 (s39.1, s39.2.2)
  )
  ) fun B39 =>
 loopF B39 KK (0, 20, x0)
def slices_SortStableFunc_Term (x0 : List (T)) (x1 : T → T → Option (Int)) : Option (List (T)) :=
 obind (slices_stableCmpFunc_Term x0 (x0.length : Int) x1) fun y8_1 =>
 some y8_1
def slices_insertionSortCmpFunc_Cell (x0 : List (C)) (x1 : Int) (x2 : Int) (x3 : C → C → Option (Int)) : Option (List (C)) :=
 bindv (IntKind.wrap .i64 (x1 + 1) : Int) fun z11_1 =>
 bindv (fun (n3 : (Int × (List (C))) → Option (List (C))) (s3 : Int × (List (C))) =>
  bindv (decide (s3.1 < x2) : Bool) fun z14_7 =>
  if z14_7 = true then (
   bindv ((fun s10 =>
    bindv (IntKind.wrap .i64 (s3.1 + 1) : Int) fun z16_12 =>
    n3 (z16_12, s10)
    ) : ((List (C))) → Option (List (C))) fun J10 =>
   bindv (fun (n14 : (Int × (List (C))) → Option (List (C))) (s14 : Int × (List (C))) =>
    bindv (decide (x1 < s14.1) : Bool) fun z20_18 =>
    chk (z20_18 = true → (0 : Int) ≤ s14.1 ∧ s14.1 < (s14.2.length : Int)) <|
    bindv (gel s14.2 s14.1 : C) fun z25_20 =>
    bindv (IntKind.wrap .i64 (s14.1 - 1) : Int) fun z29_22 =>
    chk (z20_18 = true → (0 : Int) ≤ z29_22 ∧ z29_22 < (s14.2.length : Int)) <|
    bindv (gel s14.2 z29_22 : C) fun z30_24 =>
    obind (if z20_18 = true then x3 z25_20 z30_24 else some default) fun y32_26 =>
    bindv (decide (y32_26 < 0) : Bool) fun z33_27 =>
    bindv (z20_18 && z33_27 : Bool) fun z34_28 =>
    if z34_28 = true then (
     bindv (IntKind.wrap .i64 (s14.1 - 1) : Int) fun z41_31 =>
     chk ((0 : Int) ≤ z41_31 ∧ z41_31 < (s14.2.length : Int)) <|
     chk ((0 : Int) ≤ s14.1 ∧ s14.1 < (s14.2.length : Int)) <|
     bindv ((s14.2.set (Int.toNat s14.1) (gel s14.2 z41_31)).set (Int.toNat z41_31) (gel s14.2 s14.1) : List (C)) fun zrow_35 =>
     bindv (IntKind.wrap .i64 (s14.1 - 1) : Int) fun z36_37 =>
     n14 (z36_37, zrow_35)
    ) else (
     J10 s14.2
    )
    ) fun B14 =>
   loopF B14 KK (s3.1, s3.2)
  ) else (
   some s3.2
  )
  ) fun B3 =>
 loopF B3 KK (z11_1, x0)
def slices_pdqsortCmpFunc_Cell (x0 : List (C)) (x1 : Int) (x2 : Int) (x3 : Int) (x4 : C → C → Option (Int)) : Option (List (C)) :=
 bindv (fun (n2 : (Int × Int × Int × Bool × Bool × (List (C))) → Option (List (C))) (s2 : Int × Int × Int × Bool × Bool × (List (C))) =>
  bindv (IntKind.wrap .i64 (s2.2.1 - s2.1) : Int) fun z23_6 =>
  bindv (decide (z23_6 ≤ 12) : Bool) fun z25_8 =>
  if z25_8 = true then (
   obind (slices_insertionSortCmpFunc_Cell s2.2.2.2.2.2 s2.1 s2.2.1 x4) fun y30_10 =>
   some y30_10
  ) else (
   bindv (decide (s2.2.2.1 = 0) : Bool) fun z32_13 =>
   if z32_13 = true then (
    none
   ) else (
    none
   )
  )
  ) fun B2 =>
 loopF B2 KK (x1, x2, x3, true, true, x0)
def slices_SortFunc_Cell (x0 : List (C)) (x1 : C → C → Option (Int)) : Option (List (C)) :=
 bindv (IntKind.wrap .u64 (x0.length : Int) : Int) fun z10_1 =>
 chk (0 ≤ z10_1 ∧ z10_1 ≤ 18446744073709551615) <|
 bindv ((Lib.bitLen (Int.toNat z10_1) : Int) : Int) fun z11_4 =>
 obind (slices_pdqsortCmpFunc_Cell x0 (0 : Int) (x0.length : Int) z11_4 x1) fun y13_5 =>
 some y13_5
end Go.Sp
end
section
namespace Go.Sp
open Go.Stp Go.ValP
def poly_norm (x0 : List (T)) : Option ((List (T)) × Bool) :=
 obind (slices_SortStableFunc_Term x0 poly_norm_1) fun y13_1 =>
 bindv ((fun s4 =>
  bindv (decide (32 < (s4.length : Int)) : Bool) fun z64_8 =>
  if z64_8 = true then (
   some ([], false)
  ) else (
   bindv ((fun s11 =>
    some (s4, true)
    ) : (Unit) → Option ((List (T)) × Bool)) fun J11 =>
   bindv (fun (n13 : (Int) → Option ((List (T)) × Bool)) (s13 : Int) =>
    bindv (decide (s13 < (s4.length : Int)) : Bool) fun z68_15 =>
    if z68_15 = true then (
     chk ((0 : Int) ≤ s13 ∧ s13 < (s4.length : Int)) <|
     bindv (gel s4 s13 : T) fun z69_20 =>
     bindv (decide (4 < (z69_20.v.length : Int)) : Bool) fun z74_23 =>
     bindv (decide (1000000 < z69_20.n) : Bool) fun z78_24 =>
     bindv (z74_23 || z78_24 : Bool) fun z79_25 =>
     if z79_25 = true then (
      some ([], false)
     ) else (
      bindv (IntKind.wrap .i64 (s13 + 1) : Int) fun z80_27 =>
      n13 z80_27
     )
    ) else (
     J11 ()
    )
    ) fun B13 =>
   loopF B13 KK 0
  )
  ) : ((List (T))) → Option ((List (T)) × Bool)) fun J4 =>
 bindv (fun (n29 : (Int × (List (T))) → Option ((List (T)) × Bool)) (s29 : Int × (List (T))) =>
  bindv (decide (s29.1 < (y13_1.length : Int)) : Bool) fun z17_32 =>
  if z17_32 = true then (
   chk ((0 : Int) ≤ s29.1 ∧ s29.1 < (y13_1.length : Int)) <|
   bindv (gel y13_1 s29.1 : T) fun z18_37 =>
   bindv (IntKind.wrap .i64 ((s29.2.length : Int) - 1) : Int) fun z22_40 =>
   bindv (decide (z18_37.n = 0) : Bool) fun z25_42 =>
   if z25_42 = true then (
    bindv (IntKind.wrap .i64 (s29.1 + 1) : Int) fun z61_44 =>
    n29 (z61_44, s29.2)
   ) else (
    bindv (decide (z22_40 < 0) : Bool) fun z27_46 =>
    chk ((!z27_46) = true → (0 : Int) ≤ z22_40 ∧ z22_40 < (s29.2.length : Int)) <|
    bindv (gel s29.2 z22_40 : T) fun z31_48 =>
    obind (if (!z27_46) = true then poly_less z31_48.v z18_37.v else some default) fun y36_50 =>
    bindv (!decide (y36_50 = 0) : Bool) fun z37_51 =>
    bindv (z27_46 || z37_51 : Bool) fun z38_52 =>
    if z38_52 = true then (
     chk (s29.2.length + [z18_37].length ≤ 9223372036854775807 ∧ (s29.2.length + [z18_37].length) * 32 ≤ 140737488355328) <|
     bindv (s29.2 ++ [z18_37] : List (T)) fun z42_57 =>
     bindv (IntKind.wrap .i64 (s29.1 + 1) : Int) fun z61_58 =>
     n29 (z61_58, z42_57)
    ) else (
     chk ((0 : Int) ≤ z22_40 ∧ z22_40 < (s29.2.length : Int)) <|
     bindv (gel s29.2 z22_40 : T) fun z46_60 =>
     obind (num_Add z46_60.n z18_37.n) fun y51_62 =>
     bindv (!y51_62.2 : Bool) fun z55_64 =>
     if z55_64 = true then (
      some ([], false)
     ) else (
      chk ((0 : Int) ≤ z22_40 ∧ z22_40 < (s29.2.length : Int)) <|
      bindv (gel s29.2 z22_40 : T) fun z59_67 =>
      bindv (s29.2.set (Int.toNat z22_40) (⟨y51_62.1, z59_67.v⟩ : T) : List (T)) fun zr1_69 =>
      bindv (IntKind.wrap .i64 (s29.1 + 1) : Int) fun z61_70 =>
      n29 (z61_70, zr1_69)
     )
    )
   )
  ) else (
   J4 s29.2
  )
  ) fun B29 =>
 loopF B29 KK (0, ([] : List (T)))
def poly_Const (x0 : Int) : Option ((List (T)) × Bool) :=
 bindv (decide (x0 < 0) : Bool) fun z5_2 =>
 bindv (decide (1000000 < x0) : Bool) fun z8_3 =>
 bindv (z5_2 || z8_3 : Bool) fun z9_4 =>
 if z9_4 = true then (
  some ([], false)
 ) else (
  obind (poly_norm ([(⟨x0, []⟩ : T)])) fun y13_7 =>
  some (y13_7.1, y13_7.2)
 )
def poly_Var (x0 : C) : Option ((List (T))) :=
 some ([(⟨1, [x0]⟩ : T)])
def poly_Add (x0 : List (List (T))) : Option ((List (T)) × Bool) :=
 bindv ((fun s2 =>
  obind (poly_norm s2) fun y18_4 =>
  some (y18_4.1, y18_4.2)
  ) : ((List (T))) → Option ((List (T)) × Bool)) fun J2 =>
 bindv (fun (n7 : (Int × (List (T))) → Option ((List (T)) × Bool)) (s7 : Int × (List (T))) =>
  bindv (decide (s7.1 < (x0.length : Int)) : Bool) fun z10_10 =>
  if z10_10 = true then (
   chk ((0 : Int) ≤ s7.1 ∧ s7.1 < (x0.length : Int)) <|
   bindv (gel x0 s7.1 : List (T)) fun z11_15 =>
   chk (s7.2.length + z11_15.length ≤ 9223372036854775807 ∧ (s7.2.length + z11_15.length) * 32 ≤ 140737488355328) <|
   bindv (s7.2 ++ z11_15 : List (T)) fun z15_19 =>
   bindv (IntKind.wrap .i64 (s7.1 + 1) : Int) fun z16_20 =>
   n7 (z16_20, z15_19)
  ) else (
   J2 s7.2
  )
  ) fun B7 =>
 loopF B7 KK (0, ([] : List (T)))
def poly_Mul (x0 : List (T)) (x1 : List (T)) : Option ((List (T)) × Bool) :=
 bindv ((fun s2 =>
  obind (poly_norm s2) fun y45_4 =>
  some (y45_4.1, y45_4.2)
  ) : ((List (T))) → Option ((List (T)) × Bool)) fun J2 =>
 bindv (fun (n7 : (Int × (List (T))) → Option ((List (T)) × Bool)) (s7 : Int × (List (T))) =>
  bindv (decide (s7.1 < (x0.length : Int)) : Bool) fun z15_10 =>
  if z15_10 = true then (
   chk ((0 : Int) ≤ s7.1 ∧ s7.1 < (x0.length : Int)) <|
   bindv (gel x0 s7.1 : T) fun z16_15 =>
   bindv (fun (n19 : (Int × (List (T))) → Option ((List (T)) × Bool)) (s19 : Int × (List (T))) =>
    bindv (decide (s19.1 < (x1.length : Int)) : Bool) fun z21_22 =>
    if z21_22 = true then (
     chk ((0 : Int) ≤ s19.1 ∧ s19.1 < (x1.length : Int)) <|
     bindv (gel x1 s19.1 : T) fun z22_27 =>
     chk (0 + z16_15.v.length ≤ 9223372036854775807 ∧ (0 + z16_15.v.length) * 24 ≤ 140737488355328) <|
     chk (z16_15.v.length + z22_27.v.length ≤ 9223372036854775807 ∧ (z16_15.v.length + z22_27.v.length) * 24 ≤ 140737488355328) <|
     bindv (z16_15.v ++ z22_27.v : List (C)) fun zapp_33 =>
     obind (slices_SortFunc_Cell zapp_33 poly_Mul_1) fun y31_34 =>
     bindv (IntKind.wrap .i64 (z16_15.n * z22_27.n) : Int) fun z37_36 =>
     chk (s19.2.length + [(⟨z37_36, y31_34⟩ : T)].length ≤ 9223372036854775807 ∧ (s19.2.length + [(⟨z37_36, y31_34⟩ : T)].length) * 32 ≤ 140737488355328) <|
     bindv (s19.2 ++ [(⟨z37_36, y31_34⟩ : T)] : List (T)) fun z41_41 =>
     bindv (IntKind.wrap .i64 (s19.1 + 1) : Int) fun z42_42 =>
     n19 (z42_42, z41_41)
    ) else (
     bindv (IntKind.wrap .i64 (s7.1 + 1) : Int) fun z43_43 =>
     n7 (z43_43, s19.2)
    )
    ) fun B19 =>
   loopF B19 KK (0, s7.2)
  ) else (
   J2 s7.2
  )
  ) fun B7 =>
 loopF B7 KK (0, ([] : List (T)))
def poly_Print (x0 : List (T)) : Option ((List UInt8)) :=
 bindv (decide ((x0.length : Int) = 0) : Bool) fun z10_2 =>
 if z10_2 = true then (
  some ([48] : List UInt8)
 ) else (
  bindv ((fun s5 =>
   some s5
   ) : ((List UInt8)) → Option ((List UInt8))) fun J5 =>
  bindv (fun (n7 : ((List UInt8) × Int) → Option ((List UInt8))) (s7 : (List UInt8) × Int) =>
   bindv (decide (s7.2 < (x0.length : Int)) : Bool) fun z14_9 =>
   if z14_9 = true then (
    chk ((0 : Int) ≤ s7.2 ∧ s7.2 < (x0.length : Int)) <|
    bindv (gel x0 s7.2 : T) fun z16_14 =>
    bindv ((fun s18 =>
     bindv ((fun s20 =>
      bindv (fun (n22 : ((List UInt8) × Int) → Option ((List UInt8))) (s22 : (List UInt8) × Int) =>
       bindv (decide (s22.2 < (z16_14.v.length : Int)) : Bool) fun z46_24 =>
       if z46_24 = true then (
        chk ((0 : Int) ≤ s22.2 ∧ s22.2 < (z16_14.v.length : Int)) <|
        bindv (gel z16_14.v s22.2 : C) fun z48_29 =>
        bindv ((fun s32 =>
         obind (addr_Print z48_29) fun y56_33 =>
         chk (s32.length + y56_33.length ≤ 9223372036854775807) <|
         bindv (s32 ++ y56_33 : List UInt8) fun z57_35 =>
         bindv (IntKind.wrap .i64 (s22.2 + 1) : Int) fun z58_36 =>
         n22 (z57_35, z58_36)
         ) : ((List UInt8)) → Option ((List UInt8))) fun J32 =>
        bindv (decide (0 < s22.2) : Bool) fun z51_37 =>
        if z51_37 = true then (
         chk (s22.1.length + ([42] : List UInt8).length ≤ 9223372036854775807) <|
         bindv (s22.1 ++ ([42] : List UInt8) : List UInt8) fun z53_40 =>
         J32 z53_40
        ) else (
         J32 s22.1
        )
       ) else (
        bindv (IntKind.wrap .i64 (s7.2 + 1) : Int) fun z59_41 =>
        n7 (s22.1, z59_41)
       )
       ) fun B22 =>
      loopF B22 KK (s20, 0)
      ) : ((List UInt8)) → Option ((List UInt8))) fun J20 =>
     bindv (!decide (z16_14.n = 1) : Bool) fun z24_42 =>
     bindv (decide ((z16_14.v.length : Int) = 0) : Bool) fun z29_43 =>
     bindv (z24_42 || z29_43 : Bool) fun z30_44 =>
     if z30_44 = true then (
      chk (((-9223372036854775808 : Int) ≤ z16_14.n ∧ z16_14.n ≤ 9223372036854775807) ∧ (10 : Int) = 10) <|
      bindv (Lib.itoa z16_14.n : (List UInt8)) fun z34_48 =>
      chk (s18.length + z34_48.length ≤ 9223372036854775807) <|
      bindv (s18 ++ z34_48 : List UInt8) fun z35_50 =>
      bindv (decide (0 < (z16_14.v.length : Int)) : Bool) fun z39_51 =>
      if z39_51 = true then (
       chk (z35_50.length + ([42] : List UInt8).length ≤ 9223372036854775807) <|
       bindv (z35_50 ++ ([42] : List UInt8) : List UInt8) fun z41_54 =>
       J20 z41_54
      ) else (
       J20 z35_50
      )
     ) else (
      J20 s18
     )
     ) : ((List UInt8)) → Option ((List UInt8))) fun J18 =>
    bindv (decide (0 < s7.2) : Bool) fun z19_55 =>
    if z19_55 = true then (
     chk (s7.1.length + ([43] : List UInt8).length ≤ 9223372036854775807) <|
     bindv (s7.1 ++ ([43] : List UInt8) : List UInt8) fun z21_58 =>
     J18 z21_58
    ) else (
     J18 s7.1
    )
   ) else (
    J5 s7.1
   )
   ) fun B7 =>
  loopF B7 KK ([], 0)
 )
def poly_Num (x0 : List (T)) (x1 : C → Option (Int)) : Option (Int × Bool) :=
 bindv ((fun s2 =>
  some (s2, true)
  ) : (Int) → Option (Int × Bool)) fun J2 =>
 bindv (fun (n4 : (Int × Int) → Option (Int × Bool)) (s4 : Int × Int) =>
  bindv (decide (s4.2 < (x0.length : Int)) : Bool) fun z18_6 =>
  if z18_6 = true then (
   chk ((0 : Int) ≤ s4.2 ∧ s4.2 < (x0.length : Int)) <|
   bindv (gel x0 s4.2 : T) fun z19_11 =>
   obind (num_Of z19_11.n) fun y24_14 =>
   bindv ((fun s16 =>
    bindv ((fun s18 =>
     bindv (!s18.2 : Bool) fun z59_19 =>
     if z59_19 = true then (
      some (0, false)
     ) else (
      bindv (IntKind.wrap .i64 (s4.2 + 1) : Int) fun z60_21 =>
      n4 (s18.1, z60_21)
     )
     ) : (Int × Bool) → Option (Int × Bool)) fun J18 =>
    if s16.2 = true then (
     obind (num_Add s4.1 s16.1) fun y55_23 =>
     J18 (y55_23.1, y55_23.2)
    ) else (
     J18 (s4.1, s16.2)
    )
    ) : (Int × Bool) → Option (Int × Bool)) fun J16 =>
   bindv (fun (n25 : (Int × Bool × Int) → Option (Int × Bool)) (s25 : Int × Bool × Int) =>
    bindv (decide (s25.2.2 < (z19_11.v.length : Int)) : Bool) fun z31_27 =>
    if z31_27 = true then (
     chk ((0 : Int) ≤ s25.2.2 ∧ s25.2.2 < (z19_11.v.length : Int)) <|
     bindv (gel z19_11.v s25.2.2 : C) fun z32_32 =>
     if s25.2.1 = true then (
      obind (x1 z32_32) fun y38_35 =>
      obind (num_Of y38_35) fun y39_36 =>
      obind (num_Mul s25.1 y39_36.1) fun y45_37 =>
      bindv (!y39_36.2 : Bool) fun z49_38 =>
      if z49_38 = true then (
       bindv (IntKind.wrap .i64 (s25.2.2 + 1) : Int) fun z50_40 =>
       n25 (y45_37.1, false, z50_40)
      ) else (
       bindv (IntKind.wrap .i64 (s25.2.2 + 1) : Int) fun z50_41 =>
       n25 (y45_37.1, y45_37.2, z50_41)
      )
     ) else (
      bindv (IntKind.wrap .i64 (s25.2.2 + 1) : Int) fun z50_42 =>
      n25 (s25.1, s25.2.1, z50_42)
     )
    ) else (
     J16 (s25.1, s25.2.1)
    )
    ) fun B25 =>
   loopF B25 KK (y24_14.1, y24_14.2, 0)
  ) else (
   J2 s4.1
  )
  ) fun B4 =>
 loopF B4 KK (0, 0)
def reckonerlaw15_fit  : Option (Bool) :=
 obind (poly_Var (⟨0, 0, 0⟩ : C)) fun y5_1 =>
 obind (poly_Var (⟨0, 0, 0⟩ : C)) fun y7_4 =>
 obind (poly_Add [y5_1, y7_4]) fun y9_8 =>
 obind (if y9_8.2 = true then poly_Print y9_8.1 else some default) fun y15_10 =>
 bindv (decide (y15_10 = ([50, 42, 83, 49, 33, 65, 49] : List UInt8)) : Bool) fun z16_11 =>
 bindv (y9_8.2 && z16_11 : Bool) fun z17_12 =>
 some z17_12
end Go.Sp
end
