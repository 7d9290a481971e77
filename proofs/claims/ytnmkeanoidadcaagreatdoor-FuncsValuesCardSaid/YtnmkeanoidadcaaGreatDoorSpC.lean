/- What functions of the program compute, as partial functions: printed off the program's form (no proof here). -/
import Derived.Test.YtnmkeanoidadcaaGreatDoorSpB
set_option linter.unusedSimpArgs false
set_option linter.unusedVariables false
set_option linter.unusedSectionVars false
namespace Go.Sp
open Go.Stp Go.ValP
def bits_Div64 (x0 : Int) (x1 : Int) (x2 : Int) : Option (Int × Int) :=
 bindv ((fun s2 =>
  bindv ((fun s4 =>
   bindv (decide (x0 = 0) : Bool) fun z27_6 =>
   if z27_6 = true then (
    chk (x2 ≠ 0) <|
    bindv (IntKind.wrap .u64 (Int.tdiv x1 x2) : Int) fun z30_9 =>
    chk (x2 ≠ 0) <|
    bindv (Int.tmod x1 x2 : Int) fun z33_11 =>
    some (z30_9, z33_11)
   ) else (
    chk (0 ≤ x2 ∧ x2 ≤ 18446744073709551615) <|
    bindv (64 - (Lib.bitLen (Int.toNat x2) : Int) : Int) fun z35_14 =>
    bindv (IntKind.wrap .u64 z35_14 : Int) fun z36_15 =>
    chk ((0 : Int) ≤ z36_15) <|
    bindv (shlI .u64 x2 z36_15 : Int) fun z39_17 =>
    chk ((0 : Int) ≤ 32) <|
    bindv (shrI .u64 z39_17 32 : Int) fun z41_19 =>
    bindv (bits .and .u64 z39_17 4294967295 : Int) fun z43_20 =>
    chk ((0 : Int) ≤ z36_15) <|
    bindv (shlI .u64 x0 z36_15 : Int) fun z46_22 =>
    bindv (IntKind.wrap .u64 (64 - z36_15) : Int) fun z49_23 =>
    chk ((0 : Int) ≤ z49_23) <|
    bindv (shrI .u64 x1 z49_23 : Int) fun z50_25 =>
    bindv (bits .or .u64 z46_22 z50_25 : Int) fun z51_26 =>
    chk ((0 : Int) ≤ z36_15) <|
    bindv (shlI .u64 x1 z36_15 : Int) fun z54_28 =>
    chk ((0 : Int) ≤ 32) <|
    bindv (shrI .u64 z54_28 32 : Int) fun z56_30 =>
    bindv (bits .and .u64 z54_28 4294967295 : Int) fun z58_31 =>
    chk (z41_19 ≠ 0) <|
    bindv (IntKind.wrap .u64 (Int.tdiv z51_26 z41_19) : Int) fun z61_33 =>
    bindv (IntKind.wrap .u64 (z61_33 * z41_19) : Int) fun z65_34 =>
    bindv (IntKind.wrap .u64 (z51_26 - z65_34) : Int) fun z66_35 =>
    bindv ((fun s37 =>
     bindv (IntKind.wrap .u64 (z51_26 * 4294967296) : Int) fun z87_38 =>
     bindv (IntKind.wrap .u64 (z87_38 + z56_30) : Int) fun z89_39 =>
     bindv (IntKind.wrap .u64 (s37 * z39_17) : Int) fun z92_40 =>
     bindv (IntKind.wrap .u64 (z89_39 - z92_40) : Int) fun z93_41 =>
     chk (z41_19 ≠ 0) <|
     bindv (IntKind.wrap .u64 (Int.tdiv z93_41 z41_19) : Int) fun z96_43 =>
     bindv (IntKind.wrap .u64 (z96_43 * z41_19) : Int) fun z100_44 =>
     bindv (IntKind.wrap .u64 (z93_41 - z100_44) : Int) fun z101_45 =>
     bindv ((fun s47 =>
      bindv (IntKind.wrap .u64 (s37 * 4294967296) : Int) fun z122_48 =>
      bindv (IntKind.wrap .u64 (z122_48 + s47) : Int) fun z124_49 =>
      bindv (IntKind.wrap .u64 (z93_41 * 4294967296) : Int) fun z126_50 =>
      bindv (IntKind.wrap .u64 (z126_50 + z58_31) : Int) fun z128_51 =>
      bindv (IntKind.wrap .u64 (s47 * z39_17) : Int) fun z131_52 =>
      bindv (IntKind.wrap .u64 (z128_51 - z131_52) : Int) fun z132_53 =>
      chk ((0 : Int) ≤ z36_15) <|
      bindv (shrI .u64 z132_53 z36_15 : Int) fun z134_55 =>
      some (z124_49, z134_55)
      ) : (Int) → Option (Int × Int)) fun J47 =>
     bindv (fun (n56 : (Int × Int) → Option (Int × Int)) (s56 : Int × Int) =>
      bindv (decide (4294967296 ≤ s56.2) : Bool) fun z103_59 =>
      bindv (IntKind.wrap .u64 (s56.2 * z43_20) : Int) fun z107_60 =>
      bindv (IntKind.wrap .u64 (4294967296 * s56.1) : Int) fun z109_61 =>
      bindv (IntKind.wrap .u64 (z109_61 + z58_31) : Int) fun z111_62 =>
      bindv (decide (z111_62 < z107_60) : Bool) fun z112_63 =>
      bindv (z103_59 || z112_63 : Bool) fun z113_64 =>
      if z113_64 = true then (
       bindv (IntKind.wrap .u64 (s56.2 - 1) : Int) fun z115_67 =>
       bindv (IntKind.wrap .u64 (s56.1 + z41_19) : Int) fun z118_68 =>
       bindv (decide (4294967296 ≤ z118_68) : Bool) fun z120_69 =>
       if z120_69 = true then (
        J47 z115_67
       ) else (
        n56 (z118_68, z115_67)
       )
      ) else (
       J47 s56.2
      )
      ) fun B56 =>
     loopF B56 KK (z101_45, z96_43)
     ) : (Int) → Option (Int × Int)) fun J37 =>
    bindv (fun (n71 : (Int × Int) → Option (Int × Int)) (s71 : Int × Int) =>
     bindv (decide (4294967296 ≤ s71.1) : Bool) fun z68_74 =>
     bindv (IntKind.wrap .u64 (s71.1 * z43_20) : Int) fun z72_75 =>
     bindv (IntKind.wrap .u64 (4294967296 * s71.2) : Int) fun z74_76 =>
     bindv (IntKind.wrap .u64 (z74_76 + z56_30) : Int) fun z76_77 =>
     bindv (decide (z76_77 < z72_75) : Bool) fun z77_78 =>
     bindv (z68_74 || z77_78 : Bool) fun z78_79 =>
     if z78_79 = true then (
      bindv (IntKind.wrap .u64 (s71.1 - 1) : Int) fun z80_82 =>
      bindv (IntKind.wrap .u64 (s71.2 + z41_19) : Int) fun z83_83 =>
      bindv (decide (4294967296 ≤ z83_83) : Bool) fun z85_84 =>
      if z85_84 = true then (
       J37 z80_82
      ) else (
       n71 (z80_82, z83_83)
      )
     ) else (
      J37 s71.1
     )
     ) fun B71 =>
    loopF B71 KK (z61_33, z66_35)
   )
   ) : (Unit) → Option (Int × Int)) fun J4 =>
  bindv (decide (x2 ≤ x0) : Bool) fun z24_86 =>
  if z24_86 = true then (
   none
  ) else (
   J4 ()
  )
  ) : (Unit) → Option (Int × Int)) fun J2 =>
 bindv (decide (x2 = 0) : Bool) fun z20_88 =>
 if z20_88 = true then (
  none
 ) else (
  J2 ()
 )

def num_scaled (x0 : Int) (x1 : Int) (x2 : Int) : Option (Int × Bool) :=
 chk ((0 ≤ x0 ∧ x0 ≤ 18446744073709551615) ∧ 0 ≤ x1 ∧ x1 ≤ 18446744073709551615) <|
 bindv ((x0 * x1 / 18446744073709551616, x0 * x1 % 18446744073709551616) : Int × Int) fun z15_3 =>
 bindv (decide (x2 ≤ z15_3.1) : Bool) fun z20_5 =>
 if z20_5 = true then (
  some (0, false)
 ) else (
  obind (bits_Div64 z15_3.1 z15_3.2 x2) fun y25_7 =>
  bindv ((fun s9 =>
   bindv (!decide (s9 = 0) : Bool) fun z37_10 =>
   bindv (IntKind.wrap .u64 (x2 - y25_7.2) : Int) fun z42_11 =>
   bindv (decide (y25_7.2 < z42_11) : Bool) fun z43_12 =>
   bindv (z37_10 || z43_12 : Bool) fun z44_13 =>
   some (s9, z44_13)
   ) : (Int) → Option (Int × Bool)) fun J9 =>
  bindv (IntKind.wrap .u64 (x2 - y25_7.2) : Int) fun z31_14 =>
  bindv (decide (z31_14 ≤ y25_7.2) : Bool) fun z32_15 =>
  if z32_15 = true then (
   bindv (IntKind.wrap .u64 (y25_7.1 + 1) : Int) fun z34_17 =>
   J9 z34_17
  ) else (
   J9 y25_7.1
  )
 )

def num_Mul (x0 : Int) (x1 : Int) : Option (Int × Bool) :=
 obind (num_abs x0) fun y10_1 =>
 obind (num_abs x1) fun y12_2 =>
 obind (num_scaled y10_1 y12_2 (1000000 : Int)) fun y13_3 =>
 bindv (!y13_3.2 : Bool) fun z17_5 =>
 if z17_5 = true then (
  some (0, false)
 ) else (
  bindv (decide (x0 < 0) : Bool) fun z20_7 =>
  bindv (decide (x1 < 0) : Bool) fun z22_8 =>
  bindv (!(z20_7 == z22_8) : Bool) fun z23_9 =>
  obind (num_signed y13_3.1 z23_9) fun y24_10 =>
  some (y24_10.1, y24_10.2)
 )

def num_Quo (x0 : Int) (x1 : Int) : Option (Int × Bool) :=
 bindv (decide (x1 = 0) : Bool) fun z9_2 =>
 if z9_2 = true then (
  some (0, false)
 ) else (
  obind (num_abs x0) fun y12_4 =>
  obind (num_abs x1) fun y14_5 =>
  obind (num_scaled y12_4 (1000000 : Int) y14_5) fun y15_6 =>
  bindv (!y15_6.2 : Bool) fun z19_8 =>
  if z19_8 = true then (
   some (0, false)
  ) else (
   bindv (decide (x0 < 0) : Bool) fun z22_10 =>
   bindv (decide (x1 < 0) : Bool) fun z24_11 =>
   bindv (!(z22_10 == z24_11) : Bool) fun z25_12 =>
   obind (num_signed y15_6.1 z25_12) fun y26_13 =>
   some (y26_13.1, y26_13.2)
  )
 )

def num_Print (x0 : Int) : Option ((List UInt8)) :=
 obind (num_abs x0) fun y11_1 =>
 bindv ((fun s4 =>
  bindv ((fun s7 =>
   bindv ((fun s10 =>
    chk (bytesOk s10 = true) <|
    bindv (toB s10 : List UInt8) fun z73_13 =>
    some z73_13
    ) : ((List (Int))) → Option ((List UInt8))) fun J10 =>
   bindv (IntKind.wrap .i64 ((s7.length : Int) - 1) : Int) fun z50_14 =>
   bindv (fun (n16 : (Int × Int × (List (Int))) → Option ((List UInt8))) (s16 : Int × Int × (List (Int))) =>
    bindv (decide (s16.1 < s16.2.1) : Bool) fun z53_20 =>
    if z53_20 = true then (
     chk ((0 : Int) ≤ s16.1 ∧ s16.1 < (s16.2.2.length : Int)) <|
     chk ((0 : Int) ≤ s16.2.1 ∧ s16.2.1 < (s16.2.2.length : Int)) <|
     bindv ((s16.2.2.set (Int.toNat s16.1) (gel s16.2.2 s16.2.1)).set (Int.toNat s16.2.1) (gel s16.2.2 s16.1) : List Int) fun zrow_25 =>
     bindv (IntKind.wrap .i64 (s16.1 + 1) : Int) fun z55_28 =>
     bindv (IntKind.wrap .i64 (s16.2.1 - 1) : Int) fun z57_29 =>
     n16 (z55_28, z57_29, zrow_25)
    ) else (
     J10 s16.2.2
    )
    ) fun B16 =>
   loopF B16 KK (0, z50_14, s7)
   ) : ((List (Int))) → Option ((List UInt8))) fun J7 =>
  bindv (decide (x0 < 0) : Bool) fun z44_30 =>
  if z44_30 = true then (
   chk (s4.length + [45].length ≤ 9223372036854775807 ∧ (s4.length + [45].length) * 1 ≤ 140737488355328) <|
   bindv (s4 ++ [45] : List (Int)) fun z47_35 =>
   J7 z47_35
  ) else (
   J7 s4
  )
  ) : ((List (Int))) → Option ((List UInt8))) fun J4 =>
 bindv (fun (n37 : (Int × Bool × Int × (List (Int))) → Option ((List UInt8))) (s37 : Int × Bool × Int × (List (Int))) =>
  bindv (decide (s37.2.2.1 < 7) : Bool) fun z14_41 =>
  bindv (decide (0 < s37.1) : Bool) fun z17_42 =>
  bindv (z14_41 || z17_42 : Bool) fun z18_43 =>
  if z18_43 = true then (
   bindv ((fun s46 =>
    bindv (IntKind.wrap .i64 (s37.2.2.1 + 1) : Int) fun z20_48 =>
    n37 (s46.1, s46.2.1, z20_48, s46.2.2)
    ) : (Int × Bool × (List (Int))) → Option ((List UInt8))) fun J46 =>
   bindv ((fun s50 =>
    bindv (Int.tmod s37.1 10 : Int) fun z29_52 =>
    bindv (IntKind.wrap .u8 z29_52 : Int) fun z30_53 =>
    bindv (IntKind.wrap .u64 (Int.tdiv s37.1 10) : Int) fun z32_54 =>
    bindv (decide (z30_53 = 0) : Bool) fun z36_56 =>
    bindv (s50.1 && z36_56 : Bool) fun z37_57 =>
    if z37_57 = true then (
     J46 (z32_54, s50.1, s50.2)
    ) else (
     bindv (IntKind.wrap .u8 (48 + z30_53) : Int) fun z40_59 =>
     chk (s50.2.length + [z40_59].length ≤ 9223372036854775807 ∧ (s50.2.length + [z40_59].length) * 1 ≤ 140737488355328) <|
     bindv (s50.2 ++ [z40_59] : List (Int)) fun z42_63 =>
     J46 (z32_54, false, z42_63)
    )
    ) : (Bool × (List (Int))) → Option ((List UInt8))) fun J50 =>
   bindv (decide (s37.2.2.1 = 6) : Bool) fun z22_64 =>
   if z22_64 = true then (
    bindv (!s37.2.1 : Bool) fun z24_67 =>
    if z24_67 = true then (
     chk (s37.2.2.2.length + [46].length ≤ 9223372036854775807 ∧ (s37.2.2.2.length + [46].length) * 1 ≤ 140737488355328) <|
     bindv (s37.2.2.2 ++ [46] : List (Int)) fun z27_72 =>
     J50 (false, z27_72)
    ) else (
     J50 (false, s37.2.2.2)
    )
   ) else (
    J50 (s37.2.1, s37.2.2.2)
   )
  ) else (
   J4 s37.2.2.2
  )
  ) fun B37 =>
 loopF B37 KK (y11_1, true, 0, [])

def value_Show (x0 : V) : Option ((List UInt8)) :=
 bindv (decide (x0.k = 1) : Bool) fun z6_4 =>
 if z6_4 = true then (
  obind (num_Print x0.n) fun y9_6 =>
  some y9_6
 ) else (
  bindv (decide (x0.k = 2) : Bool) fun z11_7 =>
  if z11_7 = true then (
   some x0.s
  ) else (
   bindv (decide (x0.k = 3) : Bool) fun z15_9 =>
   if z15_9 = true then (
    bindv (decide (x0.n = 1) : Bool) fun z18_12 =>
    if z18_12 = true then (
     some ([84, 82, 85, 69] : List UInt8)
    ) else (
     some ([70, 65, 76, 83, 69] : List UInt8)
    )
   ) else (
    bindv (decide (x0.k = 4) : Bool) fun z20_14 =>
    if z20_14 = true then (
     obind (value_ErrorName x0.n) fun y23_16 =>
     some y23_16
    ) else (
     some []
    )
   )
  )
 )

def value_ToText (x0 : V) : Option (V) :=
 bindv (decide (x0.k = 4) : Bool) fun z5_4 =>
 if z5_4 = true then (
  some x0
 ) else (
  obind (value_Show x0) fun y8_6 =>
  obind (value_Text y8_6) fun y9_7 =>
  some y9_7
 )

def maths_power (x0 : Int) (x1 : Int) : Option (V) :=
 obind (num_Of (1 : Int)) fun y8_2 =>
 bindv ((fun s4 =>
  obind (value_Made s4.1 s4.2) fun y24_5 =>
  some y24_5
  ) : (Int × Bool) → Option (V)) fun J4 =>
 bindv (fun (n7 : (Int × Bool × Int) → Option (V)) (s7 : Int × Bool × Int) =>
  bindv (decide (s7.2.2 < x1) : Bool) fun z13_9 =>
  if z13_9 = true then (
   if s7.2.1 = true then (
    obind (num_Mul s7.1 x0) fun y18_14 =>
    bindv (IntKind.wrap .i64 (s7.2.2 + 1) : Int) fun z21_15 =>
    n7 (y18_14.1, y18_14.2, z21_15)
   ) else (
    bindv (IntKind.wrap .i64 (s7.2.2 + 1) : Int) fun z21_16 =>
    n7 (s7.1, s7.2.1, z21_16)
   )
  ) else (
   J4 (s7.1, s7.2.1)
  )
  ) fun B7 =>
 loopF B7 KK (y8_2.1, y8_2.2, 0)

def lists_Product (x0 : List (V)) : Option (V) :=
 obind (lists_numbers x0) fun y9_2 =>
 bindv (decide ((y9_2.length : Int) = 0) : Bool) fun z12_5 =>
 if z12_5 = true then (
  obind (value_Num (0 : Int)) fun y13_7 =>
  some y13_7
 ) else (
  chk ((0 : Int) ≤ 0 ∧ 0 < (y9_2.length : Int)) <|
  bindv (gel y9_2 0 : Int) fun z15_9 =>
  bindv ((fun s11 =>
   obind (value_Made s11.1 s11.2) fun y34_12 =>
   some y34_12
   ) : (Int × Bool) → Option (V)) fun J11 =>
  chk ((0 : Int) ≤ (1 : Int) ∧ (1 : Int) ≤ (y9_2.length : Int) ∧ (y9_2.length : Int) ≤ (y9_2.length : Int)) <|
  bindv (cutL y9_2 (1 : Int) (y9_2.length : Int) : List (Int)) fun z18_14 =>
  bindv (fun (n17 : (Int × Bool × Int) → Option (V)) (s17 : Int × Bool × Int) =>
   bindv (decide (s17.2.2 < (z18_14.length : Int)) : Bool) fun z21_19 =>
   if z21_19 = true then (
    chk ((0 : Int) ≤ s17.2.2 ∧ s17.2.2 < (z18_14.length : Int)) <|
    bindv (gel z18_14 s17.2.2 : Int) fun z22_24 =>
    if s17.2.1 = true then (
     obind (num_Mul s17.1 z22_24) fun y28_26 =>
     bindv (IntKind.wrap .i64 (s17.2.2 + 1) : Int) fun z31_27 =>
     n17 (y28_26.1, y28_26.2, z31_27)
    ) else (
     bindv (IntKind.wrap .i64 (s17.2.2 + 1) : Int) fun z31_28 =>
     n17 (s17.1, s17.2.1, z31_28)
    )
   ) else (
    J11 (s17.1, s17.2.1)
   )
   ) fun B17 =>
  loopF B17 KK (z15_9, true, 0)
 )

def lists_Average (x0 : List (V)) : Option (V) :=
 obind (lists_Sum x0) fun y6_2 =>
 obind (lists_numbers x0) fun y8_4 =>
 bindv (decide ((y8_4.length : Int) = 0) : Bool) fun z11_7 =>
 if z11_7 = true then (
  obind (value_Fail (1 : Int)) fun y12_9 =>
  some y12_9
 ) else (
  bindv (decide (y6_2.k = 4) : Bool) fun z15_11 =>
  if z15_11 = true then (
   some y6_2
  ) else (
   bindv (IntKind.wrap .i64 ((y8_4.length : Int) * 1000000) : Int) fun z20_13 =>
   obind (num_Quo y6_2.n z20_13) fun y21_14 =>
   obind (value_Made y21_14.1 y21_14.2) fun y24_15 =>
   some y24_15
  )
 )

def maths_One (x0 : List UInt8) (x1 : Int) : Option (V) :=
 bindv ((fun s3 =>
  obind (value_Fail (2 : Int)) fun y67_4 =>
  some y67_4
  ) : (Int × Int × (List UInt8)) → Option (V)) fun J3 =>
 bindv (decide (x0 = ([65, 66, 83] : List UInt8)) : Bool) fun z10_6 =>
 if z10_6 = true then (
  bindv (IntKind.wrap .i64 (-x1) : Int) fun z13_8 =>
  bindv (max x1 z13_8 : Int) fun z14_9 =>
  obind (value_Num z14_9) fun y15_10 =>
  some y15_10
 ) else (
  bindv (decide (x0 = ([83, 73, 71, 78] : List UInt8)) : Bool) fun z17_11 =>
  if z17_11 = true then (
   bindv (max x1 (-1) : Int) fun z19_13 =>
   bindv (min z19_13 1 : Int) fun z20_14 =>
   obind (maths_back z20_14) fun y21_15 =>
   some y21_15
  ) else (
   bindv (decide (x0 = ([73, 78, 84] : List UInt8)) : Bool) fun z23_16 =>
   if z23_16 = true then (
    obind (num_Floor x1) fun y25_18 =>
    obind (value_Made y25_18.1 y25_18.2) fun y28_19 =>
    some y28_19
   ) else (
    bindv (decide (x0 = ([84, 82, 85, 78, 67] : List UInt8)) : Bool) fun z30_20 =>
    if z30_20 = true then (
     bindv (Int.tmod x1 1000000 : Int) fun z33_22 =>
     bindv (IntKind.wrap .i64 (x1 - z33_22) : Int) fun z34_23 =>
     obind (value_Num z34_23) fun y35_24 =>
     some y35_24
    ) else (
     bindv ((fun s26 =>
      if s26 = true then (
       bindv (decide (x0 = ([79, 68, 68] : List UInt8)) : Bool) fun z41_28 =>
       obind (maths_away x1 z41_28) fun y42_29 =>
       some y42_29
      ) else (
       bindv (decide (x0 = ([70, 65, 67, 84] : List UInt8)) : Bool) fun z44_30 =>
       if z44_30 = true then (
        obind (maths_whole [x1]) fun y47_33 =>
        chk ((0 : Int) ≤ 0 ∧ 0 < (y47_33.length : Int)) <|
        bindv (gel y47_33 0 : Int) fun z48_36 =>
        bindv (decide (z48_36 < 0) : Bool) fun z51_38 =>
        bindv (decide (20 < z48_36) : Bool) fun z54_39 =>
        bindv (z51_38 || z54_39 : Bool) fun z55_40 =>
        if z55_40 = true then (
         obind (value_Fail (5 : Int)) fun y56_42 =>
         some y56_42
        ) else (
         bindv ((fun s44 =>
          obind (maths_back s44) fun y66_45 =>
          some y66_45
          ) : (Int) → Option (V)) fun J44 =>
         bindv (fun (n47 : (Int × Int) → Option (V)) (s47 : Int × Int) =>
          bindv (decide (s47.2 ≤ z48_36) : Bool) fun z59_50 =>
          if z59_50 = true then (
           bindv (IntKind.wrap .i64 (s47.1 * s47.2) : Int) fun z64_53 =>
           bindv (IntKind.wrap .i64 (s47.2 + 1) : Int) fun z61_54 =>
           n47 (z64_53, z61_54)
          ) else (
           J44 s47.1
          )
          ) fun B47 =>
         loopF B47 KK (1, 2)
        )
       ) else (
        J3 (0, 0, [])
       )
      )
      ) : (Bool) → Option (V)) fun J26 =>
     bindv (decide (x0 = ([69, 86, 69, 78] : List UInt8)) : Bool) fun z37_55 =>
     if z37_55 = true then (
      J26 z37_55
     ) else (
      bindv (decide (x0 = ([79, 68, 68] : List UInt8)) : Bool) fun z38_57 =>
      J26 z38_57
     )
    )
   )
  )
 )

def maths_Two (x0 : List UInt8) (x1 : Int) (x2 : Int) : Option (V) :=
 obind (maths_whole [x1, x2]) fun y14_3 =>
 bindv (decide (x0 = ([82, 79, 85, 78, 68] : List UInt8)) : Bool) fun z17_7 =>
 if z17_7 = true then (
  chk ((0 : Int) ≤ 1 ∧ 1 < (y14_3.length : Int)) <|
  bindv (gel y14_3 1 : Int) fun z19_11 =>
  bindv (decide (z19_11 < (-6)) : Bool) fun z21_12 =>
  chk ((!z21_12) = true → (0 : Int) ≤ 1 ∧ 1 < (y14_3.length : Int)) <|
  bindv (gel y14_3 1 : Int) fun z24_14 =>
  bindv (decide (6 < z24_14) : Bool) fun z26_15 =>
  bindv (z21_12 || z26_15 : Bool) fun z27_16 =>
  if z27_16 = true then (
   obind (value_Fail (5 : Int)) fun y28_18 =>
   some y28_18
  ) else (
   chk ((0 : Int) ≤ 1 ∧ 1 < (y14_3.length : Int)) <|
   bindv (gel y14_3 1 : Int) fun z31_20 =>
   obind (maths_round x1 z31_20) fun y33_21 =>
   some y33_21
  )
 ) else (
  bindv (decide (x0 = ([77, 79, 68] : List UInt8)) : Bool) fun z35_22 =>
  if z35_22 = true then (
   bindv (decide (x2 = 0) : Bool) fun z37_25 =>
   if z37_25 = true then (
    obind (value_Fail (1 : Int)) fun y38_27 =>
    some y38_27
   ) else (
    chk (x2 ≠ 0) <|
    bindv (Int.tmod x1 x2 : Int) fun z41_29 =>
    bindv ((fun s31 =>
     obind (value_Num s31) fun y55_32 =>
     some y55_32
     ) : (Int) → Option (V)) fun J31 =>
    bindv (!decide (z41_29 = 0) : Bool) fun z43_33 =>
    bindv (decide (z41_29 < 0) : Bool) fun z46_34 =>
    bindv (decide (x2 < 0) : Bool) fun z48_35 =>
    bindv (!(z46_34 == z48_35) : Bool) fun z49_36 =>
    bindv (z43_33 && z49_36 : Bool) fun z50_37 =>
    if z50_37 = true then (
     bindv (IntKind.wrap .i64 (z41_29 + x2) : Int) fun z53_39 =>
     J31 z53_39
    ) else (
     J31 z41_29
    )
   )
  ) else (
   bindv (decide (x0 = ([80, 79, 87, 69, 82] : List UInt8)) : Bool) fun z57_40 =>
   if z57_40 = true then (
    bindv (Int.tmod x2 1000000 : Int) fun z59_43 =>
    bindv (!decide (z59_43 = 0) : Bool) fun z60_44 =>
    chk ((!z60_44) = true → (0 : Int) ≤ 1 ∧ 1 < (y14_3.length : Int)) <|
    bindv (gel y14_3 1 : Int) fun z63_46 =>
    bindv (decide (z63_46 < 0) : Bool) fun z65_47 =>
    bindv (z60_44 || z65_47 : Bool) fun z66_48 =>
    chk ((!z66_48) = true → (0 : Int) ≤ 1 ∧ 1 < (y14_3.length : Int)) <|
    bindv (gel y14_3 1 : Int) fun z69_50 =>
    bindv (decide (64 < z69_50) : Bool) fun z71_51 =>
    bindv (z66_48 || z71_51 : Bool) fun z72_52 =>
    if z72_52 = true then (
     obind (value_Fail (5 : Int)) fun y73_54 =>
     some y73_54
    ) else (
     chk ((0 : Int) ≤ 1 ∧ 1 < (y14_3.length : Int)) <|
     bindv (gel y14_3 1 : Int) fun z76_56 =>
     obind (maths_power x1 z76_56) fun y78_57 =>
     some y78_57
    )
   ) else (
    bindv (decide (x0 = ([81, 85, 79, 84, 73, 69, 78, 84] : List UInt8)) : Bool) fun z80_58 =>
    if z80_58 = true then (
     bindv (decide (x2 = 0) : Bool) fun z82_61 =>
     if z82_61 = true then (
      obind (value_Fail (1 : Int)) fun y83_63 =>
      some y83_63
     ) else (
      chk (x2 ≠ 0) <|
      bindv (IntKind.wrap .i64 (Int.tdiv x1 x2) : Int) fun z86_65 =>
      obind (maths_back z86_65) fun y87_66 =>
      some y87_66
     )
    ) else (
     bindv ((fun s68 =>
      if s68 = true then (
       chk ((0 : Int) ≤ 0 ∧ 0 < (y14_3.length : Int)) <|
       bindv (gel y14_3 0 : Int) fun z92_72 =>
       bindv (decide (z92_72 < 0) : Bool) fun z94_73 =>
       chk ((!z94_73) = true → (0 : Int) ≤ 1 ∧ 1 < (y14_3.length : Int)) <|
       bindv (gel y14_3 1 : Int) fun z97_75 =>
       bindv (decide (z97_75 < 0) : Bool) fun z99_76 =>
       bindv (z94_73 || z99_76 : Bool) fun z100_77 =>
       if z100_77 = true then (
        obind (value_Fail (5 : Int)) fun y101_79 =>
        some y101_79
       ) else (
        chk ((0 : Int) ≤ 0 ∧ 0 < (y14_3.length : Int)) <|
        bindv (gel y14_3 0 : Int) fun z103_81 =>
        chk ((0 : Int) ≤ 1 ∧ 1 < (y14_3.length : Int)) <|
        bindv (gel y14_3 1 : Int) fun z106_83 =>
        obind (maths_gcd z103_81 z106_83) fun y108_84 =>
        bindv (decide (x0 = ([71, 67, 68] : List UInt8)) : Bool) fun z110_86 =>
        bindv (decide (y108_84 = 0) : Bool) fun z113_87 =>
        bindv (z110_86 || z113_87 : Bool) fun z114_88 =>
        if z114_88 = true then (
         obind (maths_back y108_84) fun y116_90 =>
         some y116_90
        ) else (
         chk ((0 : Int) ≤ 0 ∧ 0 < (y14_3.length : Int)) <|
         bindv (gel y14_3 0 : Int) fun z118_92 =>
         chk (y108_84 ≠ 0) <|
         bindv (IntKind.wrap .i64 (Int.tdiv z118_92 y108_84) : Int) fun z121_94 =>
         chk ((0 : Int) ≤ 1 ∧ 1 < (y14_3.length : Int)) <|
         bindv (gel y14_3 1 : Int) fun z123_97 =>
         bindv (!decide (z123_97 = 0) : Bool) fun z125_98 =>
         chk (z125_98 = true → (0 : Int) ≤ 1 ∧ 1 < (y14_3.length : Int)) <|
         bindv (gel y14_3 1 : Int) fun z129_100 =>
         chk (z125_98 = true → z129_100 ≠ 0) <|
         bindv (IntKind.wrap .i64 (Int.tdiv 9223372036854 z129_100) : Int) fun z131_102 =>
         bindv (decide (z131_102 < z121_94) : Bool) fun z132_103 =>
         bindv (z125_98 && z132_103 : Bool) fun z133_104 =>
         if z133_104 = true then (
          obind (value_Fail (5 : Int)) fun y134_106 =>
          some y134_106
         ) else (
          chk ((0 : Int) ≤ 1 ∧ 1 < (y14_3.length : Int)) <|
          bindv (gel y14_3 1 : Int) fun z137_108 =>
          bindv (IntKind.wrap .i64 (z121_94 * z137_108) : Int) fun z139_109 =>
          obind (maths_back z139_109) fun y140_110 =>
          some y140_110
         )
        )
       )
      ) else (
       obind (value_Fail (2 : Int)) fun y141_111 =>
       some y141_111
      )
      ) : (Bool) → Option (V)) fun J68 =>
     bindv (decide (x0 = ([71, 67, 68] : List UInt8)) : Bool) fun z89_112 =>
     if z89_112 = true then (
      J68 z89_112
     ) else (
      bindv (decide (x0 = ([76, 67, 77] : List UInt8)) : Bool) fun z90_114 =>
      J68 z90_114
     )
    )
   )
  )
 )

def texts_turned (x0 : List UInt8) (x1 : Int) (x2 : Int) : Option ((List UInt8)) :=
 bindv (ofB x0 : List Int) fun z11_2 =>
 bindv ((fun s4 =>
  chk (bytesOk s4 = true) <|
  bindv (toB s4 : List UInt8) fun z38_6 =>
  some z38_6
  ) : ((List Int)) → Option ((List UInt8))) fun J4 =>
 bindv (fun (n8 : (Int × (List Int)) → Option ((List UInt8))) (s8 : Int × (List Int)) =>
  bindv (decide (s8.1 < (z11_2.length : Int)) : Bool) fun z15_10 =>
  if z15_10 = true then (
   chk ((0 : Int) ≤ s8.1 ∧ s8.1 < (s8.2.length : Int)) <|
   bindv (gel s8.2 s8.1 : Int) fun z18_15 =>
   bindv (decide (x1 ≤ z18_15) : Bool) fun z21_16 =>
   bindv (IntKind.wrap .u8 (x1 + 25) : Int) fun z25_17 =>
   bindv (decide (z18_15 ≤ z25_17) : Bool) fun z26_18 =>
   bindv (z21_16 && z26_18 : Bool) fun z27_19 =>
   if z27_19 = true then (
    bindv (IntKind.wrap .u8 (z18_15 - x1) : Int) fun z32_21 =>
    bindv (IntKind.wrap .u8 (z32_21 + x2) : Int) fun z34_22 =>
    chk ((0 : Int) ≤ s8.1 ∧ s8.1 < (s8.2.length : Int)) <|
    bindv (s8.2.set (Int.toNat s8.1) z34_22 : List Int) fun zb0_24 =>
    bindv (IntKind.wrap .i64 (s8.1 + 1) : Int) fun z36_25 =>
    n8 (z36_25, zb0_24)
   ) else (
    bindv (IntKind.wrap .i64 (s8.1 + 1) : Int) fun z36_26 =>
    n8 (z36_26, s8.2)
   )
  ) else (
   J4 s8.2
  )
  ) fun B8 =>
 loopF B8 KK (0, z11_2)

def texts_One (x0 : List UInt8) (x1 : List UInt8) : Option (V) :=
 bindv (decide (x0 = ([76, 69, 78] : List UInt8)) : Bool) fun z7_4 =>
 if z7_4 = true then (
  obind (texts_runes x1) fun y9_6 =>
  obind (num_Of y9_6) fun y10_7 =>
  obind (value_Made y10_7.1 y10_7.2) fun y13_8 =>
  some y13_8
 ) else (
  bindv (decide (x0 = ([85, 80, 80, 69, 82] : List UInt8)) : Bool) fun z15_9 =>
  if z15_9 = true then (
   obind (texts_turned x1 (97 : Int) (65 : Int)) fun y17_11 =>
   obind (value_Text y17_11) fun y18_12 =>
   some y18_12
  ) else (
   bindv (decide (x0 = ([76, 79, 87, 69, 82] : List UInt8)) : Bool) fun z20_13 =>
   if z20_13 = true then (
    obind (texts_turned x1 (65 : Int) (97 : Int)) fun y22_15 =>
    obind (value_Text y22_15) fun y23_16 =>
    some y23_16
   ) else (
    bindv (decide (x0 = ([84, 82, 73, 77] : List UInt8)) : Bool) fun z25_17 =>
    if z25_17 = true then (
     obind (texts_trimmed x1) fun y27_19 =>
     obind (value_Text y27_19) fun y28_20 =>
     some y28_20
    ) else (
     bindv (decide (x0 = ([86, 65, 76, 85, 69] : List UInt8)) : Bool) fun z30_21 =>
     if z30_21 = true then (
      obind (value_ToNum (⟨2, 0, x1⟩ : V)) fun y33_23 =>
      some y33_23
     ) else (
      obind (value_Fail (2 : Int)) fun y34_24 =>
      some y34_24
     )
    )
   )
  )
 )

def texts_Part (x0 : List UInt8) (x1 : List UInt8) (x2 : List (Int)) : Option (V) :=
 bindv (decide ((x2.length : Int) = 0) : Bool) fun z14_3 =>
 if z14_3 = true then (
  obind (value_Fail (2 : Int)) fun y15_5 =>
  some y15_5
 ) else (
  bindv (IntKind.wrap .i64 ((x2.length : Int) - 1) : Int) fun z20_6 =>
  chk ((0 : Int) ≤ z20_6 ∧ z20_6 < (x2.length : Int)) <|
  bindv (gel x2 z20_6 : Int) fun z21_8 =>
  obind (texts_count z21_8 x1) fun y24_9 =>
  bindv (!y24_9.2 : Bool) fun z28_11 =>
  if z28_11 = true then (
   obind (value_Fail (2 : Int)) fun y29_13 =>
   some y29_13
  ) else (
   bindv (decide (x0 = ([76, 69, 70, 84] : List UInt8)) : Bool) fun z32_16 =>
   if z32_16 = true then (
    chk ((0 : Int) ≤ y24_9.1 ∧ y24_9.1 ≤ (x1.length : Int)) <|
    bindv (cutS x1 0 y24_9.1 : List UInt8) fun z35_19 =>
    obind (value_Text z35_19) fun y36_20 =>
    some y36_20
   ) else (
    bindv (decide (x0 = ([82, 73, 71, 72, 84] : List UInt8)) : Bool) fun z38_21 =>
    if z38_21 = true then (
     bindv (IntKind.wrap .i64 ((x1.length : Int) - y24_9.1) : Int) fun z43_23 =>
     chk ((0 : Int) ≤ z43_23 ∧ z43_23 ≤ (x1.length : Int)) <|
     bindv (cutS x1 z43_23 x1.length : List UInt8) fun z44_25 =>
     obind (value_Text z44_25) fun y45_26 =>
     some y45_26
    ) else (
     bindv (decide (x0 = ([77, 73, 68] : List UInt8)) : Bool) fun z47_27 =>
     if z47_27 = true then (
      chk ((0 : Int) ≤ 0 ∧ 0 < (x2.length : Int)) <|
      bindv (gel x2 0 : Int) fun z49_30 =>
      bindv (IntKind.wrap .i64 (Int.tdiv z49_30 1000000) : Int) fun z51_31 =>
      bindv (decide (z51_31 < 1) : Bool) fun z53_33 =>
      if z53_33 = true then (
       obind (value_Fail (2 : Int)) fun y54_35 =>
       some y54_35
      ) else (
       bindv (IntKind.wrap .i64 (z51_31 - 1) : Int) fun z56_36 =>
       bindv (min z56_36 (x1.length : Int) : Int) fun z59_37 =>
       bindv (IntKind.wrap .i64 (z59_37 + y24_9.1) : Int) fun z64_38 =>
       bindv (min z64_38 (x1.length : Int) : Int) fun z67_39 =>
       chk ((0 : Int) ≤ z59_37 ∧ z59_37 ≤ z67_39 ∧ z67_39 ≤ (x1.length : Int)) <|
       bindv (cutS x1 z59_37 z67_39 : List UInt8) fun z68_41 =>
       obind (value_Text z68_41) fun y69_42 =>
       some y69_42
      )
     ) else (
      bindv (decide (x0 = ([82, 69, 80, 84] : List UInt8)) : Bool) fun z71_43 =>
      if z71_43 = true then (
       chk ((0 : Int) ≤ 0 ∧ 0 < (x2.length : Int)) <|
       bindv (gel x2 0 : Int) fun z73_46 =>
       bindv (IntKind.wrap .i64 (Int.tdiv z73_46 1000000) : Int) fun z75_47 =>
       bindv (decide (64 < z75_47) : Bool) fun z77_49 =>
       bindv (!decide (x1 = []) : Bool) fun z80_50 =>
       bindv (z77_49 && z80_50 : Bool) fun z81_51 =>
       if z81_51 = true then (
        obind (value_Fail (2 : Int)) fun y82_53 =>
        some y82_53
       ) else (
        bindv (min z75_47 64 : Int) fun z85_54 =>
        chk (0 ≤ z85_54 ∧ z85_54 ≤ 9223372036854775807 ∧ x1.length * (Int.toNat z85_54) ≤ 140737488355328) <|
        bindv (Lib.repeatL x1 (Int.toNat z85_54) : (List UInt8)) fun z86_57 =>
        obind (value_Text z86_57) fun y87_58 =>
        some y87_58
       )
      ) else (
       obind (value_Fail (2 : Int)) fun y88_59 =>
       some y88_59
      )
     )
    )
   )
  )
 )

def texts_More (x0 : List UInt8) (x1 : List (List UInt8)) : Option (V) :=
 bindv (decide (x0 = ([67, 79, 78, 67, 65, 84] : List UInt8)) : Bool) fun z8_3 =>
 if z8_3 = true then (
  chk (x1.length ≤ 140737488355328 ∧ (Lib.join x1 []).length ≤ 140737488355328) <|
  bindv (Lib.join x1 [] : (List UInt8)) fun z10_7 =>
  obind (value_Text z10_7) fun y11_8 =>
  some y11_8
 ) else (
  bindv (decide (x0 = ([69, 88, 65, 67, 84] : List UInt8)) : Bool) fun z14_9 =>
  bindv (decide ((x1.length : Int) = 2) : Bool) fun z18_10 =>
  bindv (z14_9 && z18_10 : Bool) fun z19_11 =>
  if z19_11 = true then (
   chk ((0 : Int) ≤ 0 ∧ 0 < (x1.length : Int)) <|
   bindv (gel x1 0 : List UInt8) fun z21_14 =>
   chk ((0 : Int) ≤ 1 ∧ 1 < (x1.length : Int)) <|
   bindv (gel x1 1 : List UInt8) fun z24_16 =>
   bindv (decide (z21_14 = z24_16) : Bool) fun z26_17 =>
   obind (value_Bool z26_17) fun y27_18 =>
   some y27_18
  ) else (
   bindv (decide (x0 = ([70, 73, 78, 68] : List UInt8)) : Bool) fun z30_19 =>
   bindv (decide ((x1.length : Int) = 2) : Bool) fun z34_20 =>
   bindv (z30_19 && z34_20 : Bool) fun z35_21 =>
   if z35_21 = true then (
    chk ((0 : Int) ≤ 1 ∧ 1 < (x1.length : Int)) <|
    bindv (gel x1 1 : List UInt8) fun z37_24 =>
    chk ((0 : Int) ≤ 0 ∧ 0 < (x1.length : Int)) <|
    bindv (gel x1 0 : List UInt8) fun z40_26 =>
    chk (z37_24.length < 4294967281) <|
    bindv (Lib.index z37_24 z40_26 : Int) fun z42_29 =>
    bindv (decide (z42_29 < 0) : Bool) fun z44_31 =>
    if z44_31 = true then (
     obind (value_Fail (2 : Int)) fun y45_33 =>
     some y45_33
    ) else (
     bindv (IntKind.wrap .i64 (z42_29 + 1) : Int) fun z47_34 =>
     obind (num_Of z47_34) fun y48_35 =>
     obind (value_Made y48_35.1 y48_35.2) fun y51_36 =>
     some y51_36
    )
   ) else (
    bindv (decide (x0 = ([83, 85, 66, 83, 84, 73, 84, 85, 84, 69] : List UInt8)) : Bool) fun z54_37 =>
    bindv (decide ((x1.length : Int) = 3) : Bool) fun z58_38 =>
    bindv (z54_37 && z58_38 : Bool) fun z59_39 =>
    if z59_39 = true then (
     chk ((0 : Int) ≤ 1 ∧ 1 < (x1.length : Int)) <|
     bindv (gel x1 1 : List UInt8) fun z61_43 =>
     bindv (decide (z61_43 = []) : Bool) fun z63_44 =>
     if z63_44 = true then (
      chk ((0 : Int) ≤ 0 ∧ 0 < (x1.length : Int)) <|
      bindv (gel x1 0 : List UInt8) fun z65_47 =>
      obind (value_Text z65_47) fun y67_48 =>
      some y67_48
     ) else (
      chk ((0 : Int) ≤ 0 ∧ 0 < (x1.length : Int)) <|
      bindv (gel x1 0 : List UInt8) fun z69_50 =>
      chk ((0 : Int) ≤ 1 ∧ 1 < (x1.length : Int)) <|
      bindv (gel x1 1 : List UInt8) fun z72_52 =>
      chk ((0 : Int) ≤ 2 ∧ 2 < (x1.length : Int)) <|
      bindv (gel x1 2 : List UInt8) fun z75_54 =>
      chk (z69_50.length < 4294967281 ∧ 1 ≤ z72_52.length ∧ z69_50.length + Lib.countB ⟨z69_50.toArray⟩ ⟨z72_52.toArray⟩ * z75_54.length ≤ 140737488355328) <|
      bindv (Lib.replaceAll z69_50 z72_52 z75_54 : (List UInt8)) fun z77_57 =>
      obind (value_Text z77_57) fun y78_58 =>
      some y78_58
     )
    ) else (
     obind (value_Fail (2 : Int)) fun y79_59 =>
     some y79_59
    )
   )
  )
 )

def lists_SumProduct (x0 : List (V)) (x1 : List (V)) : Option (V) :=
 bindv (!decide ((x0.length : Int) = (x1.length : Int)) : Bool) fun z12_3 =>
 if z12_3 = true then (
  obind (value_Fail (2 : Int)) fun y13_5 =>
  some y13_5
 ) else (
  obind (value_Num (0 : Int)) fun y14_6 =>
  bindv ((fun s9 =>
   some (⟨s9.2.2.2.1, s9.2.2.2.2.1, s9.2.2.2.2.2⟩ : V)
   ) : (Int × Int × (List UInt8) × Int × Int × (List UInt8)) → Option (V)) fun J9 =>
  bindv (fun (n11 : (Int × Int × Int × (List UInt8) × Int × Int × (List UInt8)) → Option (V)) (s11 : Int × Int × Int × (List UInt8) × Int × Int × (List UInt8)) =>
   bindv (decide (s11.1 < (x0.length : Int)) : Bool) fun z18_13 =>
   if z18_13 = true then (
    chk ((0 : Int) ≤ s11.1 ∧ s11.1 < (x0.length : Int)) <|
    bindv (gel x0 s11.1 : V) fun z22_19 =>
    bindv (!decide (z22_19.k = 1) : Bool) fun z25_20 =>
    chk ((!z25_20) = true → (0 : Int) ≤ s11.1 ∧ s11.1 < (x1.length : Int)) <|
    bindv (gel x1 s11.1 : V) fun z29_22 =>
    bindv (!decide (z29_22.k = 1) : Bool) fun z32_23 =>
    bindv (z25_20 || z32_23 : Bool) fun z33_24 =>
    if z33_24 = true then (
     bindv (IntKind.wrap .i64 (s11.1 + 1) : Int) fun z65_26 =>
     n11 (z65_26, s11.2.1, s11.2.2.1, s11.2.2.2.1, s11.2.2.2.2.1, s11.2.2.2.2.2.1, s11.2.2.2.2.2.2)
    ) else (
     chk ((0 : Int) ≤ s11.1 ∧ s11.1 < (x0.length : Int)) <|
     bindv (gel x0 s11.1 : V) fun z37_28 =>
     chk ((0 : Int) ≤ s11.1 ∧ s11.1 < (x1.length : Int)) <|
     bindv (gel x1 s11.1 : V) fun z41_30 =>
     obind (lists_Product [z37_28, z41_30]) fun y44_31 =>
     obind (lists_Sum [(⟨s11.2.2.2.2.1, s11.2.2.2.2.2.1, s11.2.2.2.2.2.2⟩ : V), y44_31]) fun y46_32 =>
     chk ((0 : Int) ≤ s11.1 ∧ s11.1 < (x0.length : Int)) <|
     bindv (gel x0 s11.1 : V) fun z49_35 =>
     chk ((0 : Int) ≤ s11.1 ∧ s11.1 < (x1.length : Int)) <|
     bindv (gel x1 s11.1 : V) fun z53_37 =>
     obind (lists_Product [z49_35, z53_37]) fun y56_38 =>
     bindv (decide (y56_38.k = 4) : Bool) fun z59_40 =>
     if z59_40 = true then (
      some y56_38
     ) else (
      bindv (decide (y46_32.k = 4) : Bool) fun z63_42 =>
      if z63_42 = true then (
       some y46_32
      ) else (
       bindv (IntKind.wrap .i64 (s11.1 + 1) : Int) fun z65_44 =>
       n11 (z65_44, s11.2.1, s11.2.2.1, s11.2.2.2.1, y46_32.k, y46_32.n, y46_32.s)
      )
     )
    )
   ) else (
    J9 (s11.2.1, s11.2.2.1, s11.2.2.2.1, s11.2.2.2.2.1, s11.2.2.2.2.2.1, s11.2.2.2.2.2.2)
   )
   ) fun B11 =>
  loopF B11 KK (0, 0, 0, [], y14_6.k, y14_6.n, y14_6.s)
 )
end Go.Sp
