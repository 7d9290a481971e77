/- What functions of the program compute, as partial functions: printed off the program's form (no proof here). -/
import Derived.Lib.ItoaNum
import Derived.Lib.BitFns
import Derived.Lib.Fields
import Derived.Test.YtlpfcclecmalhaaDoorPolPlain
import Derived.Test.YtlpfcclecmalhaaDoorArgPlain
import Derived.Test.YtlpfcclecmalhaaDoorNdPlain
set_option linter.unusedSimpArgs false
set_option linter.unusedVariables false
set_option linter.unusedSectionVars false
namespace Go.Sp
open Go.Stp Go.ValP
def bits_Div64 (x0 : Int) (x1 : Int) (x2 : Int) : Option (Int × Int) :=
 bindv ((fun s2 =>
  bindv ((fun s4 =>
   bindv (decide (x0 = 0) : Bool) fun z27_6 =>
   if z27_6 = true then (
    chk (x2 ≠ 0) <|
    bindv (IntKind.wrap .u64 (Int.tdiv x1 x2) : Int) fun z30_9 =>
    chk (x2 ≠ 0) <|
    bindv (Int.tmod x1 x2 : Int) fun z33_11 =>
    some (z30_9, z33_11)
   ) else (
    chk (0 ≤ x2 ∧ x2 ≤ 18446744073709551615) <|
    bindv (64 - (Lib.bitLen (Int.toNat x2) : Int) : Int) fun z35_14 =>
    bindv (IntKind.wrap .u64 z35_14 : Int) fun z36_15 =>
    chk ((0 : Int) ≤ z36_15) <|
    bindv (shlI .u64 x2 z36_15 : Int) fun z39_17 =>
    chk ((0 : Int) ≤ 32) <|
    bindv (shrI .u64 z39_17 32 : Int) fun z41_19 =>
    bindv (bits .and .u64 z39_17 4294967295 : Int) fun z43_20 =>
    chk ((0 : Int) ≤ z36_15) <|
    bindv (shlI .u64 x0 z36_15 : Int) fun z46_22 =>
    bindv (IntKind.wrap .u64 (64 - z36_15) : Int) fun z49_23 =>
    chk ((0 : Int) ≤ z49_23) <|
    bindv (shrI .u64 x1 z49_23 : Int) fun z50_25 =>
    bindv (bits .or .u64 z46_22 z50_25 : Int) fun z51_26 =>
    chk ((0 : Int) ≤ z36_15) <|
    bindv (shlI .u64 x1 z36_15 : Int) fun z54_28 =>
    chk ((0 : Int) ≤ 32) <|
    bindv (shrI .u64 z54_28 32 : Int) fun z56_30 =>
    bindv (bits .and .u64 z54_28 4294967295 : Int) fun z58_31 =>
    chk (z41_19 ≠ 0) <|
    bindv (IntKind.wrap .u64 (Int.tdiv z51_26 z41_19) : Int) fun z61_33 =>
    bindv (IntKind.wrap .u64 (z61_33 * z41_19) : Int) fun z65_34 =>
    bindv (IntKind.wrap .u64 (z51_26 - z65_34) : Int) fun z66_35 =>
    bindv ((fun s37 =>
     bindv (IntKind.wrap .u64 (z51_26 * 4294967296) : Int) fun z87_38 =>
     bindv (IntKind.wrap .u64 (z87_38 + z56_30) : Int) fun z89_39 =>
     bindv (IntKind.wrap .u64 (s37 * z39_17) : Int) fun z92_40 =>
     bindv (IntKind.wrap .u64 (z89_39 - z92_40) : Int) fun z93_41 =>
     chk (z41_19 ≠ 0) <|
     bindv (IntKind.wrap .u64 (Int.tdiv z93_41 z41_19) : Int) fun z96_43 =>
     bindv (IntKind.wrap .u64 (z96_43 * z41_19) : Int) fun z100_44 =>
     bindv (IntKind.wrap .u64 (z93_41 - z100_44) : Int) fun z101_45 =>
     bindv ((fun s47 =>
      bindv (IntKind.wrap .u64 (s37 * 4294967296) : Int) fun z122_48 =>
      bindv (IntKind.wrap .u64 (z122_48 + s47) : Int) fun z124_49 =>
      bindv (IntKind.wrap .u64 (z93_41 * 4294967296) : Int) fun z126_50 =>
      bindv (IntKind.wrap .u64 (z126_50 + z58_31) : Int) fun z128_51 =>
      bindv (IntKind.wrap .u64 (s47 * z39_17) : Int) fun z131_52 =>
      bindv (IntKind.wrap .u64 (z128_51 - z131_52) : Int) fun z132_53 =>
      chk ((0 : Int) ≤ z36_15) <|
      bindv (shrI .u64 z132_53 z36_15 : Int) fun z134_55 =>
      some (z124_49, z134_55)
      ) : (Int) → Option (Int × Int)) fun J47 =>
     bindv (fun (n56 : (Int × Int) → Option (Int × Int)) (s56 : Int × Int) =>
      bindv (decide (4294967296 ≤ s56.2) : Bool) fun z103_59 =>
      bindv (IntKind.wrap .u64 (s56.2 * z43_20) : Int) fun z107_60 =>
      bindv (IntKind.wrap .u64 (4294967296 * s56.1) : Int) fun z109_61 =>
      bindv (IntKind.wrap .u64 (z109_61 + z58_31) : Int) fun z111_62 =>
      bindv (decide (z111_62 < z107_60) : Bool) fun z112_63 =>
      bindv (z103_59 || z112_63 : Bool) fun z113_64 =>
      if z113_64 = true then (
       bindv (IntKind.wrap .u64 (s56.2 - 1) : Int) fun z115_67 =>
       bindv (IntKind.wrap .u64 (s56.1 + z41_19) : Int) fun z118_68 =>
       bindv (decide (4294967296 ≤ z118_68) : Bool) fun z120_69 =>
       if z120_69 = true then (
        J47 z115_67
       ) else (
        n56 (z118_68, z115_67)
       )
      ) else (
       J47 s56.2
      )
      ) fun B56 =>
     loopF B56 KK (z101_45, z96_43)
     ) : (Int) → Option (Int × Int)) fun J37 =>
    bindv (fun (n71 : (Int × Int) → Option (Int × Int)) (s71 : Int × Int) =>
     bindv (decide (4294967296 ≤ s71.1) : Bool) fun z68_74 =>
     bindv (IntKind.wrap .u64 (s71.1 * z43_20) : Int) fun z72_75 =>
     bindv (IntKind.wrap .u64 (4294967296 * s71.2) : Int) fun z74_76 =>
     bindv (IntKind.wrap .u64 (z74_76 + z56_30) : Int) fun z76_77 =>
     bindv (decide (z76_77 < z72_75) : Bool) fun z77_78 =>
     bindv (z68_74 || z77_78 : Bool) fun z78_79 =>
     if z78_79 = true then (
      bindv (IntKind.wrap .u64 (s71.1 - 1) : Int) fun z80_82 =>
      bindv (IntKind.wrap .u64 (s71.2 + z41_19) : Int) fun z83_83 =>
      bindv (decide (4294967296 ≤ z83_83) : Bool) fun z85_84 =>
      if z85_84 = true then (
       J37 z80_82
      ) else (
       n71 (z80_82, z83_83)
      )
     ) else (
      J37 s71.1
     )
     ) fun B71 =>
    loopF B71 KK (z61_33, z66_35)
   )
   ) : (Unit) → Option (Int × Int)) fun J4 =>
  bindv (decide (x2 ≤ x0) : Bool) fun z24_86 =>
  if z24_86 = true then (
   none
  ) else (
   J4 ()
  )
  ) : (Unit) → Option (Int × Int)) fun J2 =>
 bindv (decide (x2 = 0) : Bool) fun z20_88 =>
 if z20_88 = true then (
  none
 ) else (
  J2 ()
 )

def num_fits (x0 : Int) : Option (Bool) :=
 bindv (decide ((-9223372036854775807) ≤ x0) : Bool) fun z4_1 =>
 some z4_1

def num_Add (x0 : Int) (x1 : Int) : Option (Int × Bool) :=
 bindv (IntKind.wrap .i64 (x0 + x1) : Int) fun z9_1 =>
 obind (num_fits z9_1) fun y12_2 =>
 bindv (decide (x0 < z9_1) : Bool) fun z16_3 =>
 bindv (decide (0 < x1) : Bool) fun z18_4 =>
 bindv (z16_3 == z18_4 : Bool) fun z19_5 =>
 bindv (y12_2 && z19_5 : Bool) fun z20_6 =>
 some (z9_1, z20_6)

def num_abs (x0 : Int) : Option (Int) :=
 bindv (decide (x0 < 0) : Bool) fun z4_2 =>
 if z4_2 = true then (
  bindv (IntKind.wrap .u64 x0 : Int) fun z6_4 =>
  bindv (IntKind.wrap .u64 (-z6_4) : Int) fun z7_5 =>
  some z7_5
 ) else (
  bindv (IntKind.wrap .u64 x0 : Int) fun z9_6 =>
  some z9_6
 )

def num_signed (x0 : Int) (x1 : Bool) : Option (Int × Bool) :=
 bindv (decide (9223372036854775807 < x0) : Bool) fun z7_2 =>
 if z7_2 = true then (
  some (0, false)
 ) else (
  if x1 = true then (
   bindv (IntKind.wrap .i64 x0 : Int) fun z10_6 =>
   bindv (IntKind.wrap .i64 (-z10_6) : Int) fun z11_7 =>
   some (z11_7, true)
  ) else (
   bindv (IntKind.wrap .i64 x0 : Int) fun z13_8 =>
   some (z13_8, true)
  )
 )

def num_Of (x0 : Int) : Option (Int × Bool) :=
 bindv (decide (9223372036854 < x0) : Bool) fun z5_2 =>
 bindv (decide (x0 < (-9223372036854)) : Bool) fun z8_3 =>
 bindv (z5_2 || z8_3 : Bool) fun z9_4 =>
 if z9_4 = true then (
  some (0, false)
 ) else (
  bindv (IntKind.wrap .i64 (x0 * 1000000) : Int) fun z11_6 =>
  some (z11_6, true)
 )

def num_scaled (x0 : Int) (x1 : Int) (x2 : Int) : Option (Int × Bool) :=
 chk ((0 ≤ x0 ∧ x0 ≤ 18446744073709551615) ∧ 0 ≤ x1 ∧ x1 ≤ 18446744073709551615) <|
 bindv ((x0 * x1 / 18446744073709551616, x0 * x1 % 18446744073709551616) : Int × Int) fun z15_3 =>
 bindv (decide (x2 ≤ z15_3.1) : Bool) fun z20_5 =>
 if z20_5 = true then (
  some (0, false)
 ) else (
  obind (bits_Div64 z15_3.1 z15_3.2 x2) fun y25_7 =>
  bindv ((fun s9 =>
   bindv (!decide (s9 = 0) : Bool) fun z37_10 =>
   bindv (IntKind.wrap .u64 (x2 - y25_7.2) : Int) fun z42_11 =>
   bindv (decide (y25_7.2 < z42_11) : Bool) fun z43_12 =>
   bindv (z37_10 || z43_12 : Bool) fun z44_13 =>
   some (s9, z44_13)
   ) : (Int) → Option (Int × Bool)) fun J9 =>
  bindv (IntKind.wrap .u64 (x2 - y25_7.2) : Int) fun z31_14 =>
  bindv (decide (z31_14 ≤ y25_7.2) : Bool) fun z32_15 =>
  if z32_15 = true then (
   bindv (IntKind.wrap .u64 (y25_7.1 + 1) : Int) fun z34_17 =>
   J9 z34_17
  ) else (
   J9 y25_7.1
  )
 )

def num_Mul (x0 : Int) (x1 : Int) : Option (Int × Bool) :=
 obind (num_abs x0) fun y10_1 =>
 obind (num_abs x1) fun y12_2 =>
 obind (num_scaled y10_1 y12_2 (1000000 : Int)) fun y13_3 =>
 bindv (!y13_3.2 : Bool) fun z17_5 =>
 if z17_5 = true then (
  some (0, false)
 ) else (
  bindv (decide (x0 < 0) : Bool) fun z20_7 =>
  bindv (decide (x1 < 0) : Bool) fun z22_8 =>
  bindv (!(z20_7 == z22_8) : Bool) fun z23_9 =>
  obind (num_signed y13_3.1 z23_9) fun y24_10 =>
  some (y24_10.1, y24_10.2)
 )

def addr_Less (x0 : C) (x1 : C) : Option (Bool) :=
 bindv (!decide (x0.s = x1.s) : Bool) fun z9_4 =>
 if z9_4 = true then (
  bindv (decide (x0.s < x1.s) : Bool) fun z14_6 =>
  some z14_6
 ) else (
  bindv (!decide (x0.r = x1.r) : Bool) fun z19_8 =>
  if z19_8 = true then (
   bindv (decide (x0.r < x1.r) : Bool) fun z24_10 =>
   some z24_10
  ) else (
   bindv (decide (x0.c < x1.c) : Bool) fun z29_11 =>
   some z29_11
  )
 )

def poly_less (x0 : List (C)) (x1 : List (C)) : Option (Int) :=
 bindv (!decide ((x0.length : Int) = (x1.length : Int)) : Bool) fun z10_2 =>
 if z10_2 = true then (
  bindv (IntKind.wrap .i64 ((x0.length : Int) - (x1.length : Int)) : Int) fun z15_4 =>
  some z15_4
 ) else (
  bindv ((fun s6 =>
   some 0
   ) : (Unit) → Option (Int)) fun J6 =>
  bindv (fun (n8 : (Int) → Option (Int)) (s8 : Int) =>
   bindv (decide (s8 < (x0.length : Int)) : Bool) fun z19_10 =>
   if z19_10 = true then (
    chk ((0 : Int) ≤ s8 ∧ s8 < (x0.length : Int)) <|
    bindv (gel x0 s8 : C) fun z23_16 =>
    chk ((0 : Int) ≤ s8 ∧ s8 < (x1.length : Int)) <|
    bindv (gel x1 s8 : C) fun z27_18 =>
    obind (addr_Less z23_16 z27_18) fun y29_19 =>
    if y29_19 = true then (
     some (-1)
    ) else (
     chk ((0 : Int) ≤ s8 ∧ s8 < (x1.length : Int)) <|
     bindv (gel x1 s8 : C) fun z32_22 =>
     chk ((0 : Int) ≤ s8 ∧ s8 < (x0.length : Int)) <|
     bindv (gel x0 s8 : C) fun z36_24 =>
     obind (addr_Less z32_22 z36_24) fun y38_25 =>
     if y38_25 = true then (
      some 1
     ) else (
      bindv (IntKind.wrap .i64 (s8 + 1) : Int) fun z39_27 =>
      n8 z39_27
     )
    )
   ) else (
    J6 ()
   )
   ) fun B8 =>
  loopF B8 KK 0
 )

def poly_norm_1 (x0 : T) (x1 : T) : Option (Int) :=
 obind (poly_less x0.v x1.v) fun y9_3 =>
 some y9_3

def poly_Mul_1 (x0 : C) (x1 : C) : Option (Int) :=
 obind (addr_Less x0 x1) fun y8_4 =>
 if y8_4 = true then (
  some (-1)
 ) else (
  obind (addr_Less x1 x0) fun y12_6 =>
  if y12_6 = true then (
   some 1
  ) else (
   some 0
  )
 )

def addr_PrintRef (x0 : Rf) (x1 : Int) : Option ((List UInt8)) :=
 bindv ((fun s3 =>
  bindv ((fun s5 =>
   bindv (IntKind.wrap .i64 (65 + x0.c.c) : Int) fun z26_6 =>
   bindv (IntKind.wrap .i32 z26_6 : Int) fun z27_7 =>
   chk ((0 : Int) ≤ z27_7 ∧ z27_7 < 128) <|
   bindv ([UInt8.ofNat (Int.toNat z27_7)] : List UInt8) fun z28_9 =>
   chk (s5.length + z28_9.length ≤ 9223372036854775807) <|
   bindv (s5 ++ z28_9 : List UInt8) fun z29_11 =>
   bindv ((fun s13 =>
    bindv (IntKind.wrap .i64 (x0.c.r + 1) : Int) fun z38_14 =>
    chk ((-9223372036854775808 : Int) ≤ z38_14 ∧ z38_14 ≤ 9223372036854775807) <|
    bindv (Lib.itoa z38_14 : (List UInt8)) fun z39_17 =>
    chk (s13.length + z39_17.length ≤ 9223372036854775807) <|
    bindv (s13 ++ z39_17 : List UInt8) fun z40_19 =>
    some z40_19
    ) : ((List UInt8)) → Option ((List UInt8))) fun J13 =>
   if x0.ar = true then (
    chk (z29_11.length + ([36] : List UInt8).length ≤ 9223372036854775807) <|
    bindv (z29_11 ++ ([36] : List UInt8) : List UInt8) fun z33_22 =>
    J13 z33_22
   ) else (
    J13 z29_11
   )
   ) : ((List UInt8)) → Option ((List UInt8))) fun J5 =>
  if x0.ac = true then (
   chk (s3.length + ([36] : List UInt8).length ≤ 9223372036854775807) <|
   bindv (s3 ++ ([36] : List UInt8) : List UInt8) fun z21_25 =>
   J5 z21_25
  ) else (
   J5 s3
  )
  ) : ((List UInt8)) → Option ((List UInt8))) fun J3 =>
 bindv (!decide (x0.c.s = x1) : Bool) fun z10_26 =>
 if z10_26 = true then (
  bindv (IntKind.wrap .i64 (x0.c.s + 1) : Int) fun z14_28 =>
  chk ((-9223372036854775808 : Int) ≤ z14_28 ∧ z14_28 ≤ 9223372036854775807) <|
  bindv (Lib.itoa z14_28 : (List UInt8)) fun z15_31 =>
  chk (([83] : List UInt8).length + z15_31.length ≤ 9223372036854775807) <|
  bindv (([83] : List UInt8) ++ z15_31 : List UInt8) fun z16_33 =>
  chk (z16_33.length + ([33] : List UInt8).length ≤ 9223372036854775807) <|
  bindv (z16_33 ++ ([33] : List UInt8) : List UInt8) fun z17_35 =>
  J3 z17_35
 ) else (
  J3 []
 )

def addr_Print (x0 : C) : Option ((List UInt8)) :=
 obind (addr_PrintRef (⟨x0, false, false⟩ : Rf) ((-1) : Int)) fun y5_2 =>
 some y5_2
end Go.Sp
