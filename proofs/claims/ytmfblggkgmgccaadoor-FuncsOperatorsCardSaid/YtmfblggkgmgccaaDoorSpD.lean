/- What functions of the program compute, as partial functions: printed off the program's form (no proof here). -/
import Derived.Test.YtmfblggkgmgccaaDoorSpC
set_option linter.unusedSimpArgs false
set_option linter.unusedVariables false
set_option linter.unusedSectionVars false
namespace Go.Sp
open Go.Stp Go.ValP
def funcs_Binary (x0 : Int) (x1 : V) (x2 : V) : Option (V) :=
  bindv (decide (6 ≤ x0) : Bool) fun z12_5 =>
  if z12_5 = true then (
    obind (value_Compare x1 x2) fun y15_7 =>
    bindv (decide (y15_7 = 0) : Bool) fun z17_8 =>
    bindv (!decide (y15_7 = 0) : Bool) fun z19_9 =>
    bindv (decide (y15_7 < 0) : Bool) fun z21_10 =>
    bindv (decide (y15_7 ≤ 0) : Bool) fun z23_11 =>
    bindv (decide (0 < y15_7) : Bool) fun z25_12 =>
    bindv (decide (0 ≤ y15_7) : Bool) fun z27_13 =>
    bindv (IntKind.wrap .i64 (x0 - 6) : Int) fun z30_14 =>
    chk ((0 : Int) ≤ z30_14 ∧ z30_14 < (6 : Int)) <|
    bindv (gel [z17_8, z19_9, z21_10, z23_11, z25_12, z27_13] z30_14 : Bool) fun z31_16 =>
    obind (value_Bool z31_16) fun y32_17 =>
    some y32_17
  ) else (
    bindv (decide (x0 = 5) : Bool) fun z35_18 =>
    if z35_18 = true then (
      obind (value_Show x1) fun y37_20 =>
      obind (value_Show x2) fun y39_21 =>
      chk (y37_20.length + y39_21.length ≤ 9223372036854775807) <|
      bindv (y37_20 ++ y39_21 : List UInt8) fun z40_23 =>
      obind (value_Text z40_23) fun y41_24 =>
      some y41_24
    ) else (
      obind (value_ToNum x1) fun y43_25 =>
      obind (value_ToNum x2) fun y45_26 =>
      bindv (decide (y43_25.k = 4) : Bool) fun z48_30 =>
      if z48_30 = true then (
        some y43_25
      ) else (
        bindv (decide (y45_26.k = 4) : Bool) fun z52_33 =>
        if z52_33 = true then (
          some y45_26
        ) else (
          bindv (decide (x0 = 1) : Bool) fun z56_37 =>
          if z56_37 = true then (
            obind (num_Add y43_25.n y45_26.n) fun y61_39 =>
            obind (value_Made y61_39.1 y61_39.2) fun y64_40 =>
            some y64_40
          ) else (
            bindv (decide (x0 = 2) : Bool) fun z66_41 =>
            if z66_41 = true then (
              obind (num_Sub y43_25.n y45_26.n) fun y71_43 =>
              obind (value_Made y71_43.1 y71_43.2) fun y74_44 =>
              some y74_44
            ) else (
              bindv (decide (x0 = 3) : Bool) fun z76_45 =>
              if z76_45 = true then (
                obind (num_Mul y43_25.n y45_26.n) fun y81_47 =>
                obind (value_Made y81_47.1 y81_47.2) fun y84_48 =>
                some y84_48
              ) else (
                bindv (decide (y45_26.n = 0) : Bool) fun z87_50 =>
                if z87_50 = true then (
                  obind (value_Fail (1 : Int)) fun y88_52 =>
                  some y88_52
                ) else (
                  obind (num_Quo y43_25.n y45_26.n) fun y93_53 =>
                  obind (value_Made y93_53.1 y93_53.2) fun y96_54 =>
                  some y96_54
                )
              )
            )
          )
        )
      )
    )
  )

def funcs_Unary (x0 : Int) (x1 : V) : Option (V) :=
  obind (value_ToNum x1) fun y7_3 =>
  bindv (decide (y7_3.k = 4) : Bool) fun z10_6 =>
  if z10_6 = true then (
    some y7_3
  ) else (
    bindv (decide (x0 = 5) : Bool) fun z13_9 =>
    if z13_9 = true then (
      bindv (IntKind.wrap .i64 (-y7_3.n) : Int) fun z16_11 =>
      obind (value_Num z16_11) fun y17_12 =>
      some y17_12
    ) else (
      obind (num_Quo y7_3.n (100000000 : Int)) fun y20_13 =>
      obind (value_Made y20_13.1 y20_13.2) fun y23_14 =>
      some y23_14
    )
  )

def reckonerlaw12_fit  : Option (Bool) :=
  obind (value_Num (1000000 : Int)) fun y1_1 =>
  obind (value_Bool true) fun y2_2 =>
  obind (funcs_Binary (5 : Int) y1_1 y2_2) fun y3_3 =>
  obind (value_Text ([49, 84, 82, 85, 69] : List UInt8)) fun y4_4 =>
  bindv ((decide (y3_3.k = y4_4.k) && (decide (y3_3.n = y4_4.n) && decide (y3_3.s = y4_4.s))) : Bool) fun z5_5 =>
  obind (if z5_5 = true then num_Print (0 : Int) else some default) fun y7_6 =>
  bindv (decide (y7_6 = ([48] : List UInt8)) : Bool) fun z8_7 =>
  bindv (z5_5 && z8_7 : Bool) fun z9_8 =>
  some z9_8

def reckonerlaw12_FuncsOperators (x0 : Int) (x1 : V) (x2 : V) : Option (Bool) :=
  obind (reckonerlaw12_fit) fun y15_4 =>
  bindv (!y15_4 : Bool) fun z16_5 =>
  if z16_5 = true then (
    some false
  ) else (
    obind (reckonerlaw12_good x1) fun y18_8 =>
    bindv (!y18_8 : Bool) fun z19_9 =>
    obind (if (!z19_9) = true then reckonerlaw12_good x2 else some default) fun y22_10 =>
    bindv (!y22_10 : Bool) fun z23_11 =>
    bindv (z19_9 || z23_11 : Bool) fun z24_12 =>
    if z24_12 = true then (
      some true
    ) else (
      bindv (Int.tmod x0 11 : Int) fun z26_14 =>
      bindv (IntKind.wrap .i64 (z26_14 + 11) : Int) fun z27_15 =>
      bindv (Int.tmod z27_15 11 : Int) fun z28_16 =>
      bindv (IntKind.wrap .i64 (z28_16 + 1) : Int) fun z29_17 =>
      obind (funcs_Binary z29_17 x1 x2) fun y33_18 =>
      bindv (decide (6 ≤ z29_17) : Bool) fun z35_21 =>
      if z35_21 = true then (
        obind (value_Compare x1 x2) fun y38_23 =>
        bindv (decide (z29_17 = 6) : Bool) fun z41_24 =>
        bindv (decide (y38_23 = 0) : Bool) fun z44_25 =>
        bindv (z41_24 && z44_25 : Bool) fun z45_26 =>
        bindv (decide (z29_17 = 7) : Bool) fun z48_27 =>
        bindv (!decide (y38_23 = 0) : Bool) fun z51_28 =>
        bindv (z48_27 && z51_28 : Bool) fun z52_29 =>
        bindv (z45_26 || z52_29 : Bool) fun z53_30 =>
        bindv (decide (z29_17 = 8) : Bool) fun z56_31 =>
        bindv (decide (y38_23 < 0) : Bool) fun z59_32 =>
        bindv (z56_31 && z59_32 : Bool) fun z60_33 =>
        bindv (z53_30 || z60_33 : Bool) fun z61_34 =>
        bindv (decide (z29_17 = 9) : Bool) fun z64_35 =>
        bindv (decide (y38_23 ≤ 0) : Bool) fun z67_36 =>
        bindv (z64_35 && z67_36 : Bool) fun z68_37 =>
        bindv (z61_34 || z68_37 : Bool) fun z69_38 =>
        bindv (decide (z29_17 = 10) : Bool) fun z72_39 =>
        bindv (decide (0 < y38_23) : Bool) fun z75_40 =>
        bindv (z72_39 && z75_40 : Bool) fun z76_41 =>
        bindv (z69_38 || z76_41 : Bool) fun z77_42 =>
        bindv (decide (z29_17 = 11) : Bool) fun z80_43 =>
        bindv (decide (0 ≤ y38_23) : Bool) fun z83_44 =>
        bindv (z80_43 && z83_44 : Bool) fun z84_45 =>
        bindv (z77_42 || z84_45 : Bool) fun z85_46 =>
        obind (value_Bool z85_46) fun y86_47 =>
        bindv ((decide (y33_18.k = y86_47.k) && (decide (y33_18.n = y86_47.n) && decide (y33_18.s = y86_47.s))) : Bool) fun z87_48 =>
        some z87_48
      ) else (
        bindv (decide (z29_17 = 5) : Bool) fun z89_50 =>
        if z89_50 = true then (
          obind (value_Show x1) fun y92_52 =>
          obind (value_Show x2) fun y94_53 =>
          chk (y92_52.length + y94_53.length ≤ 9223372036854775807) <|
          bindv (y92_52 ++ y94_53 : List UInt8) fun z95_55 =>
          obind (value_Text z95_55) fun y96_56 =>
          bindv ((decide (y33_18.k = y96_56.k) && (decide (y33_18.n = y96_56.n) && decide (y33_18.s = y96_56.s))) : Bool) fun z97_57 =>
          some z97_57
        ) else (
          obind (value_ToNum x1) fun y99_58 =>
          obind (value_ToNum x2) fun y101_59 =>
          bindv (decide (y99_58.k = 4) : Bool) fun z104_63 =>
          bindv (decide (y101_59.k = 4) : Bool) fun z108_64 =>
          bindv (z104_63 || z108_64 : Bool) fun z109_65 =>
          if z109_65 = true then (
            obind (value_Fail (2 : Int)) fun y111_67 =>
            bindv ((decide (y33_18.k = y111_67.k) && (decide (y33_18.n = y111_67.n) && decide (y33_18.s = y111_67.s))) : Bool) fun z112_68 =>
            some z112_68
          ) else (
            obind (num_Add y99_58.n y101_59.n) fun y118_69 =>
            bindv ((fun s71 =>
              obind (num_Quo y99_58.n (100000000 : Int)) fun y161_72 =>
              obind (value_Made s71.1 s71.2) fun y167_73 =>
              bindv ((decide (y33_18.k = y167_73.k) && (decide (y33_18.n = y167_73.n) && decide (y33_18.s = y167_73.s))) : Bool) fun z168_74 =>
              obind (if z168_74 = true then funcs_Unary (5 : Int) x1 else some default) fun y171_75 =>
              bindv (IntKind.wrap .i64 (-y99_58.n) : Int) fun z174_76 =>
              obind (if z168_74 = true then value_Num z174_76 else some default) fun y175_77 =>
              bindv ((decide (y171_75.k = y175_77.k) && (decide (y171_75.n = y175_77.n) && decide (y171_75.s = y175_77.s))) : Bool) fun z176_78 =>
              bindv (z168_74 && z176_78 : Bool) fun z177_79 =>
              obind (if z177_79 = true then funcs_Unary (6 : Int) x1 else some default) fun y180_80 =>
              obind (if z177_79 = true then value_Made y161_72.1 y161_72.2 else some default) fun y183_81 =>
              bindv ((decide (y180_80.k = y183_81.k) && (decide (y180_80.n = y183_81.n) && decide (y180_80.s = y183_81.s))) : Bool) fun z184_82 =>
              bindv (z177_79 && z184_82 : Bool) fun z185_83 =>
              some z185_83
              ) : (Int × Bool) → Option (Bool)) fun J71 =>
            bindv (decide (z29_17 = 2) : Bool) fun z123_85 =>
            if z123_85 = true then (
              obind (num_Sub y99_58.n y101_59.n) fun y129_87 =>
              J71 (y129_87.1, y129_87.2)
            ) else (
              bindv (decide (z29_17 = 3) : Bool) fun z133_88 =>
              if z133_88 = true then (
                obind (num_Mul y99_58.n y101_59.n) fun y139_90 =>
                J71 (y139_90.1, y139_90.2)
              ) else (
                bindv (decide (z29_17 = 4) : Bool) fun z143_91 =>
                if z143_91 = true then (
                  bindv (decide (y101_59.n = 0) : Bool) fun z146_94 =>
                  if z146_94 = true then (
                    obind (value_Fail (1 : Int)) fun y148_96 =>
                    bindv ((decide (y33_18.k = y148_96.k) && (decide (y33_18.n = y148_96.n) && decide (y33_18.s = y148_96.s))) : Bool) fun z149_97 =>
                    some z149_97
                  ) else (
                    obind (num_Quo y99_58.n y101_59.n) fun y155_98 =>
                    J71 (y155_98.1, y155_98.2)
                  )
                ) else (
                  J71 (y118_69.1, y118_69.2)
                )
              )
            )
          )
        )
      )
    )
  )
end Go.Sp
