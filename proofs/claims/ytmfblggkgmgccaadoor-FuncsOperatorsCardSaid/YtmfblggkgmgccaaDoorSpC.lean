/- What functions of the program compute, as partial functions: printed off the program's form (no proof here). -/
import Derived.Test.YtmfblggkgmgccaaDoorSpB
set_option linter.unusedSimpArgs false
set_option linter.unusedVariables false
set_option linter.unusedSectionVars false
namespace Go.Sp
open Go.Stp Go.ValP
def bits_Div64 (x0 : Int) (x1 : Int) (x2 : Int) : Option (Int × Int) :=
  bindv ((fun s2 =>
    bindv ((fun s4 =>
      bindv (decide (x0 = 0) : Bool) fun z27_6 =>
      if z27_6 = true then (
        chk (x2 ≠ 0) <|
        bindv (IntKind.wrap .u64 (Int.tdiv x1 x2) : Int) fun z30_9 =>
        chk (x2 ≠ 0) <|
        bindv (Int.tmod x1 x2 : Int) fun z33_11 =>
        some (z30_9, z33_11)
      ) else (
        chk (0 ≤ x2 ∧ x2 ≤ 18446744073709551615) <|
        bindv (64 - (Lib.bitLen (Int.toNat x2) : Int) : Int) fun z35_14 =>
        bindv (IntKind.wrap .u64 z35_14 : Int) fun z36_15 =>
        chk ((0 : Int) ≤ z36_15) <|
        bindv (shlI .u64 x2 z36_15 : Int) fun z39_17 =>
        chk ((0 : Int) ≤ 32) <|
        bindv (shrI .u64 z39_17 32 : Int) fun z41_19 =>
        bindv (bits .and .u64 z39_17 4294967295 : Int) fun z43_20 =>
        chk ((0 : Int) ≤ z36_15) <|
        bindv (shlI .u64 x0 z36_15 : Int) fun z46_22 =>
        bindv (IntKind.wrap .u64 (64 - z36_15) : Int) fun z49_23 =>
        chk ((0 : Int) ≤ z49_23) <|
        bindv (shrI .u64 x1 z49_23 : Int) fun z50_25 =>
        bindv (bits .or .u64 z46_22 z50_25 : Int) fun z51_26 =>
        chk ((0 : Int) ≤ z36_15) <|
        bindv (shlI .u64 x1 z36_15 : Int) fun z54_28 =>
        chk ((0 : Int) ≤ 32) <|
        bindv (shrI .u64 z54_28 32 : Int) fun z56_30 =>
        bindv (bits .and .u64 z54_28 4294967295 : Int) fun z58_31 =>
        chk (z41_19 ≠ 0) <|
        bindv (IntKind.wrap .u64 (Int.tdiv z51_26 z41_19) : Int) fun z61_33 =>
        bindv (IntKind.wrap .u64 (z61_33 * z41_19) : Int) fun z65_34 =>
        bindv (IntKind.wrap .u64 (z51_26 - z65_34) : Int) fun z66_35 =>
        bindv ((fun s37 =>
          bindv (IntKind.wrap .u64 (z51_26 * 4294967296) : Int) fun z87_38 =>
          bindv (IntKind.wrap .u64 (z87_38 + z56_30) : Int) fun z89_39 =>
          bindv (IntKind.wrap .u64 (s37 * z39_17) : Int) fun z92_40 =>
          bindv (IntKind.wrap .u64 (z89_39 - z92_40) : Int) fun z93_41 =>
          chk (z41_19 ≠ 0) <|
          bindv (IntKind.wrap .u64 (Int.tdiv z93_41 z41_19) : Int) fun z96_43 =>
          bindv (IntKind.wrap .u64 (z96_43 * z41_19) : Int) fun z100_44 =>
          bindv (IntKind.wrap .u64 (z93_41 - z100_44) : Int) fun z101_45 =>
          bindv ((fun s47 =>
            bindv (IntKind.wrap .u64 (s37 * 4294967296) : Int) fun z122_48 =>
            bindv (IntKind.wrap .u64 (z122_48 + s47) : Int) fun z124_49 =>
            bindv (IntKind.wrap .u64 (z93_41 * 4294967296) : Int) fun z126_50 =>
            bindv (IntKind.wrap .u64 (z126_50 + z58_31) : Int) fun z128_51 =>
            bindv (IntKind.wrap .u64 (s47 * z39_17) : Int) fun z131_52 =>
            bindv (IntKind.wrap .u64 (z128_51 - z131_52) : Int) fun z132_53 =>
            chk ((0 : Int) ≤ z36_15) <|
            bindv (shrI .u64 z132_53 z36_15 : Int) fun z134_55 =>
            some (z124_49, z134_55)
            ) : (Int) → Option (Int × Int)) fun J47 =>
          bindv (fun (n56 : (Int × Int) → Option (Int × Int)) (s56 : Int × Int) =>
            bindv (decide (4294967296 ≤ s56.2) : Bool) fun z103_59 =>
            bindv (IntKind.wrap .u64 (s56.2 * z43_20) : Int) fun z107_60 =>
            bindv (IntKind.wrap .u64 (4294967296 * s56.1) : Int) fun z109_61 =>
            bindv (IntKind.wrap .u64 (z109_61 + z58_31) : Int) fun z111_62 =>
            bindv (decide (z111_62 < z107_60) : Bool) fun z112_63 =>
            bindv (z103_59 || z112_63 : Bool) fun z113_64 =>
            if z113_64 = true then (
              bindv (IntKind.wrap .u64 (s56.2 - 1) : Int) fun z115_67 =>
              bindv (IntKind.wrap .u64 (s56.1 + z41_19) : Int) fun z118_68 =>
              bindv (decide (4294967296 ≤ z118_68) : Bool) fun z120_69 =>
              if z120_69 = true then (
                J47 z115_67
              ) else (
                n56 (z118_68, z115_67)
              )
            ) else (
              J47 s56.2
            )
            ) fun B56 =>
          loopF B56 KK (z101_45, z96_43)
          ) : (Int) → Option (Int × Int)) fun J37 =>
        bindv (fun (n71 : (Int × Int) → Option (Int × Int)) (s71 : Int × Int) =>
          bindv (decide (4294967296 ≤ s71.1) : Bool) fun z68_74 =>
          bindv (IntKind.wrap .u64 (s71.1 * z43_20) : Int) fun z72_75 =>
          bindv (IntKind.wrap .u64 (4294967296 * s71.2) : Int) fun z74_76 =>
          bindv (IntKind.wrap .u64 (z74_76 + z56_30) : Int) fun z76_77 =>
          bindv (decide (z76_77 < z72_75) : Bool) fun z77_78 =>
          bindv (z68_74 || z77_78 : Bool) fun z78_79 =>
          if z78_79 = true then (
            bindv (IntKind.wrap .u64 (s71.1 - 1) : Int) fun z80_82 =>
            bindv (IntKind.wrap .u64 (s71.2 + z41_19) : Int) fun z83_83 =>
            bindv (decide (4294967296 ≤ z83_83) : Bool) fun z85_84 =>
            if z85_84 = true then (
              J37 z80_82
            ) else (
              n71 (z80_82, z83_83)
            )
          ) else (
            J37 s71.1
          )
          ) fun B71 =>
        loopF B71 KK (z61_33, z66_35)
      )
      ) : (Unit) → Option (Int × Int)) fun J4 =>
    bindv (decide (x2 ≤ x0) : Bool) fun z24_86 =>
    if z24_86 = true then (
      none
    ) else (
      J4 ()
    )
    ) : (Unit) → Option (Int × Int)) fun J2 =>
  bindv (decide (x2 = 0) : Bool) fun z20_88 =>
  if z20_88 = true then (
    none
  ) else (
    J2 ()
  )

def num_scaled (x0 : Int) (x1 : Int) (x2 : Int) : Option (Int × Bool) :=
  chk ((0 ≤ x0 ∧ x0 ≤ 18446744073709551615) ∧ 0 ≤ x1 ∧ x1 ≤ 18446744073709551615) <|
  bindv ((x0 * x1 / 18446744073709551616, x0 * x1 % 18446744073709551616) : Int × Int) fun z15_3 =>
  bindv (decide (x2 ≤ z15_3.1) : Bool) fun z20_5 =>
  if z20_5 = true then (
    some (0, false)
  ) else (
    obind (bits_Div64 z15_3.1 z15_3.2 x2) fun y25_7 =>
    bindv ((fun s9 =>
      bindv (!decide (s9 = 0) : Bool) fun z37_10 =>
      bindv (IntKind.wrap .u64 (x2 - y25_7.2) : Int) fun z42_11 =>
      bindv (decide (y25_7.2 < z42_11) : Bool) fun z43_12 =>
      bindv (z37_10 || z43_12 : Bool) fun z44_13 =>
      some (s9, z44_13)
      ) : (Int) → Option (Int × Bool)) fun J9 =>
    bindv (IntKind.wrap .u64 (x2 - y25_7.2) : Int) fun z31_14 =>
    bindv (decide (z31_14 ≤ y25_7.2) : Bool) fun z32_15 =>
    if z32_15 = true then (
      bindv (IntKind.wrap .u64 (y25_7.1 + 1) : Int) fun z34_17 =>
      J9 z34_17
    ) else (
      J9 y25_7.1
    )
  )

def num_Mul (x0 : Int) (x1 : Int) : Option (Int × Bool) :=
  obind (num_abs x0) fun y10_1 =>
  obind (num_abs x1) fun y12_2 =>
  obind (num_scaled y10_1 y12_2 (1000000 : Int)) fun y13_3 =>
  bindv (!y13_3.2 : Bool) fun z17_5 =>
  if z17_5 = true then (
    some (0, false)
  ) else (
    bindv (decide (x0 < 0) : Bool) fun z20_7 =>
    bindv (decide (x1 < 0) : Bool) fun z22_8 =>
    bindv (!(z20_7 == z22_8) : Bool) fun z23_9 =>
    obind (num_signed y13_3.1 z23_9) fun y24_10 =>
    some (y24_10.1, y24_10.2)
  )

def num_Quo (x0 : Int) (x1 : Int) : Option (Int × Bool) :=
  bindv (decide (x1 = 0) : Bool) fun z9_2 =>
  if z9_2 = true then (
    some (0, false)
  ) else (
    obind (num_abs x0) fun y12_4 =>
    obind (num_abs x1) fun y14_5 =>
    obind (num_scaled y12_4 (1000000 : Int) y14_5) fun y15_6 =>
    bindv (!y15_6.2 : Bool) fun z19_8 =>
    if z19_8 = true then (
      some (0, false)
    ) else (
      bindv (decide (x0 < 0) : Bool) fun z22_10 =>
      bindv (decide (x1 < 0) : Bool) fun z24_11 =>
      bindv (!(z22_10 == z24_11) : Bool) fun z25_12 =>
      obind (num_signed y15_6.1 z25_12) fun y26_13 =>
      some (y26_13.1, y26_13.2)
    )
  )

def num_Print (x0 : Int) : Option ((List UInt8)) :=
  obind (num_abs x0) fun y11_1 =>
  bindv ((fun s4 =>
    bindv ((fun s7 =>
      bindv ((fun s10 =>
        chk (bytesOk s10 = true) <|
        bindv (toB s10 : List UInt8) fun z73_13 =>
        some z73_13
        ) : ((List (Int))) → Option ((List UInt8))) fun J10 =>
      bindv (IntKind.wrap .i64 ((s7.length : Int) - 1) : Int) fun z50_14 =>
      bindv (fun (n16 : (Int × Int × (List (Int))) → Option ((List UInt8))) (s16 : Int × Int × (List (Int))) =>
        bindv (decide (s16.1 < s16.2.1) : Bool) fun z53_20 =>
        if z53_20 = true then (
          chk ((0 : Int) ≤ s16.1 ∧ s16.1 < (s16.2.2.length : Int)) <|
          chk ((0 : Int) ≤ s16.2.1 ∧ s16.2.1 < (s16.2.2.length : Int)) <|
          bindv ((s16.2.2.set (Int.toNat s16.1) (gel s16.2.2 s16.2.1)).set (Int.toNat s16.2.1) (gel s16.2.2 s16.1) : List Int) fun zrow_25 =>
          bindv (IntKind.wrap .i64 (s16.1 + 1) : Int) fun z55_28 =>
          bindv (IntKind.wrap .i64 (s16.2.1 - 1) : Int) fun z57_29 =>
          n16 (z55_28, z57_29, zrow_25)
        ) else (
          J10 s16.2.2
        )
        ) fun B16 =>
      loopF B16 KK (0, z50_14, s7)
      ) : ((List (Int))) → Option ((List UInt8))) fun J7 =>
    bindv (decide (x0 < 0) : Bool) fun z44_30 =>
    if z44_30 = true then (
      chk (s4.length + [45].length ≤ 9223372036854775807 ∧ (s4.length + [45].length) * 1 ≤ 140737488355328) <|
      bindv (s4 ++ [45] : List (Int)) fun z47_35 =>
      J7 z47_35
    ) else (
      J7 s4
    )
    ) : ((List (Int))) → Option ((List UInt8))) fun J4 =>
  bindv (fun (n37 : (Int × Bool × Int × (List (Int))) → Option ((List UInt8))) (s37 : Int × Bool × Int × (List (Int))) =>
    bindv (decide (s37.2.2.1 < 7) : Bool) fun z14_41 =>
    bindv (decide (0 < s37.1) : Bool) fun z17_42 =>
    bindv (z14_41 || z17_42 : Bool) fun z18_43 =>
    if z18_43 = true then (
      bindv ((fun s46 =>
        bindv (IntKind.wrap .i64 (s37.2.2.1 + 1) : Int) fun z20_48 =>
        n37 (s46.1, s46.2.1, z20_48, s46.2.2)
        ) : (Int × Bool × (List (Int))) → Option ((List UInt8))) fun J46 =>
      bindv ((fun s50 =>
        bindv (Int.tmod s37.1 10 : Int) fun z29_52 =>
        bindv (IntKind.wrap .u8 z29_52 : Int) fun z30_53 =>
        bindv (IntKind.wrap .u64 (Int.tdiv s37.1 10) : Int) fun z32_54 =>
        bindv (decide (z30_53 = 0) : Bool) fun z36_56 =>
        bindv (s50.1 && z36_56 : Bool) fun z37_57 =>
        if z37_57 = true then (
          J46 (z32_54, s50.1, s50.2)
        ) else (
          bindv (IntKind.wrap .u8 (48 + z30_53) : Int) fun z40_59 =>
          chk (s50.2.length + [z40_59].length ≤ 9223372036854775807 ∧ (s50.2.length + [z40_59].length) * 1 ≤ 140737488355328) <|
          bindv (s50.2 ++ [z40_59] : List (Int)) fun z42_63 =>
          J46 (z32_54, false, z42_63)
        )
        ) : (Bool × (List (Int))) → Option ((List UInt8))) fun J50 =>
      bindv (decide (s37.2.2.1 = 6) : Bool) fun z22_64 =>
      if z22_64 = true then (
        bindv (!s37.2.1 : Bool) fun z24_67 =>
        if z24_67 = true then (
          chk (s37.2.2.2.length + [46].length ≤ 9223372036854775807 ∧ (s37.2.2.2.length + [46].length) * 1 ≤ 140737488355328) <|
          bindv (s37.2.2.2 ++ [46] : List (Int)) fun z27_72 =>
          J50 (false, z27_72)
        ) else (
          J50 (false, s37.2.2.2)
        )
      ) else (
        J50 (s37.2.1, s37.2.2.2)
      )
    ) else (
      J4 s37.2.2.2
    )
    ) fun B37 =>
  loopF B37 KK (y11_1, true, 0, [])

def value_Show (x0 : V) : Option ((List UInt8)) :=
  bindv (decide (x0.k = 1) : Bool) fun z6_4 =>
  if z6_4 = true then (
    obind (num_Print x0.n) fun y9_6 =>
    some y9_6
  ) else (
    bindv (decide (x0.k = 2) : Bool) fun z11_7 =>
    if z11_7 = true then (
      some x0.s
    ) else (
      bindv (decide (x0.k = 3) : Bool) fun z15_9 =>
      if z15_9 = true then (
        bindv (decide (x0.n = 1) : Bool) fun z18_12 =>
        if z18_12 = true then (
          some ([84, 82, 85, 69] : List UInt8)
        ) else (
          some ([70, 65, 76, 83, 69] : List UInt8)
        )
      ) else (
        bindv (decide (x0.k = 4) : Bool) fun z20_14 =>
        if z20_14 = true then (
          obind (value_ErrorName x0.n) fun y23_16 =>
          some y23_16
        ) else (
          some []
        )
      )
    )
  )
end Go.Sp
