/- What functions of the program compute, as partial functions: printed off the program's form (no proof here). -/
import Derived.Test.YtnmkeanoidadcaaGreatDoorSpC
set_option linter.unusedSimpArgs false
set_option linter.unusedVariables false
set_option linter.unusedSectionVars false
namespace Go.Sp
open Go.Stp Go.ValP
def funcs_Of (x0 : V) : Option (Arg) :=
 some (⟨false, 1, [x0]⟩ : Arg)

def funcs_single (x0 : Arg) : Option (V) :=
 bindv (!decide ((x0.l.length : Int) = 1) : Bool) fun z6_4 =>
 if z6_4 = true then (
  obind (value_Fail (2 : Int)) fun y7_6 =>
  some y7_6
 ) else (
  chk ((0 : Int) ≤ 0 ∧ 0 < (x0.l.length : Int)) <|
  bindv (gel x0.l 0 : V) fun z10_8 =>
  some z10_8
 )

def funcs_nums (x0 : List (Arg)) : Option ((List (Int)) × V) :=
 bindv ((fun s3 =>
  some (s3.2.2.2, (⟨0, 0, []⟩ : V))
  ) : (Int × Int × (List UInt8) × (List (Int))) → Option ((List (Int)) × V)) fun J3 =>
 bindv (fun (n6 : (Int × Int × Int × (List UInt8) × (List (Int))) → Option ((List (Int)) × V)) (s6 : Int × Int × Int × (List UInt8) × (List (Int))) =>
  bindv (decide (s6.1 < (x0.length : Int)) : Bool) fun z11_9 =>
  if z11_9 = true then (
   chk ((0 : Int) ≤ s6.1 ∧ s6.1 < (x0.length : Int)) <|
   bindv (gel x0 s6.1 : Arg) fun z12_14 =>
   obind (funcs_single z12_14) fun y15_17 =>
   obind (value_ToNum y15_17) fun y16_18 =>
   bindv (decide (y16_18.k = 4) : Bool) fun z19_21 =>
   if z19_21 = true then (
    some ([], y16_18)
   ) else (
    chk (s6.2.2.2.2.length + [y16_18.n].length ≤ 9223372036854775807 ∧ (s6.2.2.2.2.length + [y16_18.n].length) * 8 ≤ 140737488355328) <|
    bindv (s6.2.2.2.2 ++ [y16_18.n] : List (Int)) fun z25_26 =>
    bindv (IntKind.wrap .i64 (s6.1 + 1) : Int) fun z26_27 =>
    n6 (z26_27, s6.2.1, s6.2.2.1, s6.2.2.2.1, z25_26)
   )
  ) else (
   J3 (s6.2.1, s6.2.2.1, s6.2.2.2.1, s6.2.2.2.2)
  )
  ) fun B6 =>
 loopF B6 KK (0, 0, 0, [], ([] : List (Int)))

def funcs_strs (x0 : List (Arg)) : Option ((List (List UInt8)) × V) :=
 bindv ((fun s3 =>
  some (s3.2.2.2, (⟨0, 0, []⟩ : V))
  ) : (Int × Int × (List UInt8) × (List (List UInt8))) → Option ((List (List UInt8)) × V)) fun J3 =>
 bindv (fun (n6 : (Int × Int × Int × (List UInt8) × (List (List UInt8))) → Option ((List (List UInt8)) × V)) (s6 : Int × Int × Int × (List UInt8) × (List (List UInt8))) =>
  bindv (decide (s6.1 < (x0.length : Int)) : Bool) fun z11_9 =>
  if z11_9 = true then (
   chk ((0 : Int) ≤ s6.1 ∧ s6.1 < (x0.length : Int)) <|
   bindv (gel x0 s6.1 : Arg) fun z12_14 =>
   obind (funcs_single z12_14) fun y15_17 =>
   obind (value_ToText y15_17) fun y16_18 =>
   bindv (decide (y16_18.k = 4) : Bool) fun z19_21 =>
   if z19_21 = true then (
    some ([], y16_18)
   ) else (
    chk (s6.2.2.2.2.length + [y16_18.s].length ≤ 9223372036854775807 ∧ (s6.2.2.2.2.length + [y16_18.s].length) * 16 ≤ 140737488355328) <|
    bindv (s6.2.2.2.2 ++ [y16_18.s] : List (List UInt8)) fun z25_26 =>
    bindv (IntKind.wrap .i64 (s6.1 + 1) : Int) fun z26_27 =>
    n6 (z26_27, s6.2.1, s6.2.2.1, s6.2.2.2.1, z25_26)
   )
  ) else (
   J3 (s6.2.1, s6.2.2.1, s6.2.2.2.1, s6.2.2.2.2)
  )
  ) fun B6 =>
 loopF B6 KK (0, 0, 0, [], ([] : List (List UInt8)))

def funcs_all (x0 : List (Arg)) : Option ((List (V))) :=
 bindv ((fun s2 =>
  some s2
  ) : ((List (V))) → Option ((List (V)))) fun J2 =>
 bindv (fun (n5 : (Int × (List (V))) → Option ((List (V)))) (s5 : Int × (List (V))) =>
  bindv (decide (s5.1 < (x0.length : Int)) : Bool) fun z9_8 =>
  if z9_8 = true then (
   chk ((0 : Int) ≤ s5.1 ∧ s5.1 < (x0.length : Int)) <|
   bindv (gel x0 s5.1 : Arg) fun z10_13 =>
   chk (s5.2.length + z10_13.l.length ≤ 9223372036854775807 ∧ (s5.2.length + z10_13.l.length) * 32 ≤ 140737488355328) <|
   bindv (s5.2 ++ z10_13.l : List (V)) fun z15_18 =>
   bindv (IntKind.wrap .i64 (s5.1 + 1) : Int) fun z16_19 =>
   n5 (z16_19, z15_18)
  ) else (
   J2 s5.2
  )
  ) fun B5 =>
 loopF B5 KK (0, ([] : List (V)))

def funcs_kind (x0 : List UInt8) (x1 : V) : Option (V) :=
 bindv (decide (x0 = ([73, 83, 78, 85, 77, 66, 69, 82] : List UInt8)) : Bool) fun z8_5 =>
 if z8_5 = true then (
  bindv (decide (x1.k = 1) : Bool) fun z11_7 =>
  obind (value_Bool z11_7) fun y12_8 =>
  some y12_8
 ) else (
  bindv (decide (x0 = ([73, 83, 84, 69, 88, 84] : List UInt8)) : Bool) fun z14_9 =>
  if z14_9 = true then (
   bindv (decide (x1.k = 2) : Bool) fun z17_11 =>
   obind (value_Bool z17_11) fun y18_12 =>
   some y18_12
  ) else (
   bindv (decide (x0 = ([73, 83, 66, 76, 65, 78, 75] : List UInt8)) : Bool) fun z20_13 =>
   if z20_13 = true then (
    bindv (decide (x1.k = 0) : Bool) fun z23_15 =>
    obind (value_Bool z23_15) fun y24_16 =>
    some y24_16
   ) else (
    bindv (decide (x0 = ([73, 83, 69, 82, 82, 79, 82] : List UInt8)) : Bool) fun z26_17 =>
    if z26_17 = true then (
     bindv (decide (x1.k = 4) : Bool) fun z29_19 =>
     obind (value_Bool z29_19) fun y30_20 =>
     some y30_20
    ) else (
     bindv (decide (x0 = ([73, 83, 76, 79, 71, 73, 67, 65, 76] : List UInt8)) : Bool) fun z32_21 =>
     if z32_21 = true then (
      bindv (decide (x1.k = 3) : Bool) fun z35_23 =>
      obind (value_Bool z35_23) fun y36_24 =>
      some y36_24
     ) else (
      bindv (decide (x0 = ([78, 79, 84] : List UInt8)) : Bool) fun z38_25 =>
      if z38_25 = true then (
       obind (value_ToBool x1) fun y40_27 =>
       bindv (decide (y40_27.k = 4) : Bool) fun z43_30 =>
       if z43_30 = true then (
        some y40_27
       ) else (
        bindv (decide (y40_27.n = 0) : Bool) fun z47_32 =>
        obind (value_Bool z47_32) fun y48_33 =>
        some y48_33
       )
      ) else (
       obind (value_Fail (2 : Int)) fun y49_34 =>
       some y49_34
      )
     )
    )
   )
  )
 )

def funcs_list (x0 : List UInt8) (x1 : List (Arg)) : Option (V) :=
 bindv ((fun s5 =>
  if s5 = true then (
   bindv (decide (x0 = ([77, 65, 88] : List UInt8)) : Bool) fun z14_7 =>
   obind (funcs_all x1) fun y16_8 =>
   obind (lists_Extreme z14_7 y16_8) fun y17_10 =>
   some y17_10
  ) else (
   bindv (decide (x0 = ([83, 85, 77] : List UInt8)) : Bool) fun z19_11 =>
   if z19_11 = true then (
    obind (funcs_all x1) fun y21_13 =>
    obind (lists_Sum y21_13) fun y22_15 =>
    some y22_15
   ) else (
    bindv (decide (x0 = ([80, 82, 79, 68, 85, 67, 84] : List UInt8)) : Bool) fun z24_16 =>
    if z24_16 = true then (
     obind (funcs_all x1) fun y26_18 =>
     obind (lists_Product y26_18) fun y27_20 =>
     some y27_20
    ) else (
     bindv (decide (x0 = ([67, 79, 85, 78, 84] : List UInt8)) : Bool) fun z29_21 =>
     if z29_21 = true then (
      obind (funcs_all x1) fun y31_23 =>
      obind (lists_Count (1 : Int) true y31_23) fun y32_25 =>
      some y32_25
     ) else (
      bindv (decide (x0 = ([67, 79, 85, 78, 84, 65] : List UInt8)) : Bool) fun z34_26 =>
      if z34_26 = true then (
       obind (funcs_all x1) fun y36_28 =>
       obind (lists_Count (0 : Int) false y36_28) fun y37_30 =>
       some y37_30
      ) else (
       bindv (decide (x0 = ([67, 79, 85, 78, 84, 66, 76, 65, 78, 75] : List UInt8)) : Bool) fun z39_31 =>
       if z39_31 = true then (
        obind (funcs_all x1) fun y41_33 =>
        obind (lists_Count (0 : Int) true y41_33) fun y42_35 =>
        some y42_35
       ) else (
        bindv (decide (x0 = ([65, 86, 69, 82, 65, 71, 69] : List UInt8)) : Bool) fun z44_36 =>
        if z44_36 = true then (
         obind (funcs_all x1) fun y46_38 =>
         obind (lists_Average y46_38) fun y47_40 =>
         some y47_40
        ) else (
         bindv (decide (x0 = ([67, 79, 85, 78, 84, 73, 70] : List UInt8)) : Bool) fun z49_41 =>
         if z49_41 = true then (
          chk ((0 : Int) ≤ 1 ∧ 1 < (x1.length : Int)) <|
          bindv (gel x1 1 : Arg) fun z51_44 =>
          obind (funcs_single z51_44) fun y53_46 =>
          chk ((0 : Int) ≤ 0 ∧ 0 < (x1.length : Int)) <|
          bindv (gel x1 0 : Arg) fun z55_48 =>
          obind (lists_CountIf y53_46 z55_48.l) fun y58_50 =>
          some y58_50
         ) else (
          bindv (decide (x0 = ([83, 85, 77, 73, 70] : List UInt8)) : Bool) fun z60_51 =>
          if z60_51 = true then (
           chk ((0 : Int) ≤ 1 ∧ 1 < (x1.length : Int)) <|
           bindv (gel x1 1 : Arg) fun z62_54 =>
           obind (funcs_single z62_54) fun y64_56 =>
           chk ((0 : Int) ≤ 0 ∧ 0 < (x1.length : Int)) <|
           bindv (gel x1 0 : Arg) fun z66_58 =>
           obind (lists_SumIf y64_56 z66_58.l) fun y69_60 =>
           some y69_60
          ) else (
           bindv (decide (x0 = ([83, 85, 77, 80, 82, 79, 68, 85, 67, 84] : List UInt8)) : Bool) fun z71_61 =>
           if z71_61 = true then (
            chk ((0 : Int) ≤ 0 ∧ 0 < (x1.length : Int)) <|
            bindv (gel x1 0 : Arg) fun z73_64 =>
            chk ((0 : Int) ≤ 1 ∧ 1 < (x1.length : Int)) <|
            bindv (gel x1 1 : Arg) fun z77_67 =>
            obind (lists_SumProduct z73_64.l z77_67.l) fun y80_69 =>
            some y80_69
           ) else (
            bindv (decide (x0 = ([77, 65, 84, 67, 72] : List UInt8)) : Bool) fun z82_70 =>
            if z82_70 = true then (
             chk ((0 : Int) ≤ 0 ∧ 0 < (x1.length : Int)) <|
             bindv (gel x1 0 : Arg) fun z84_73 =>
             obind (funcs_single z84_73) fun y86_75 =>
             chk ((0 : Int) ≤ 1 ∧ 1 < (x1.length : Int)) <|
             bindv (gel x1 1 : Arg) fun z88_77 =>
             obind (lists_Match y86_75 z88_77.l) fun y91_79 =>
             some y91_79
            ) else (
             bindv (decide (x0 = ([82, 79, 87, 83] : List UInt8)) : Bool) fun z93_80 =>
             if z93_80 = true then (
              chk ((0 : Int) ≤ 0 ∧ 0 < (x1.length : Int)) <|
              bindv (gel x1 0 : Arg) fun z95_83 =>
              chk ((0 : Int) ≤ 0 ∧ 0 < (x1.length : Int)) <|
              bindv (gel x1 0 : Arg) fun z100_86 =>
              bindv (max z100_86.cols 1 : Int) fun z103_88 =>
              chk (z103_88 ≠ 0) <|
              bindv (IntKind.wrap .i64 (Int.tdiv (z95_83.l.length : Int) z103_88) : Int) fun z104_90 =>
              obind (num_Of z104_90) fun y105_91 =>
              obind (value_Made y105_91.1 y105_91.2) fun y108_92 =>
              some y108_92
             ) else (
              bindv (decide (x0 = ([67, 79, 76, 85, 77, 78, 83] : List UInt8)) : Bool) fun z110_93 =>
              if z110_93 = true then (
               chk ((0 : Int) ≤ 0 ∧ 0 < (x1.length : Int)) <|
               bindv (gel x1 0 : Arg) fun z112_96 =>
               obind (num_Of z112_96.cols) fun y115_98 =>
               obind (value_Made y115_98.1 y115_98.2) fun y118_99 =>
               some y118_99
              ) else (
               bindv (decide (x0 = ([78, 65] : List UInt8)) : Bool) fun z120_100 =>
               if z120_100 = true then (
                obind (value_Fail (6 : Int)) fun y121_102 =>
                some y121_102
               ) else (
                bindv (decide (x0 = ([73, 78, 68, 69, 88] : List UInt8)) : Bool) fun z123_103 =>
                if z123_103 = true then (
                 chk ((0 : Int) ≤ (1 : Int) ∧ (1 : Int) ≤ (x1.length : Int) ∧ (x1.length : Int) ≤ (x1.length : Int)) <|
                 bindv (cutL x1 (1 : Int) (x1.length : Int) : List (Arg)) fun z126_106 =>
                 obind (funcs_nums z126_106) fun y127_108 =>
                 bindv (decide (y127_108.2.k = 4) : Bool) fun z132_112 =>
                 if z132_112 = true then (
                  some y127_108.2
                 ) else (
                  chk ((0 : Int) ≤ 0 ∧ 0 < (x1.length : Int)) <|
                  bindv (gel x1 0 : Arg) fun z135_115 =>
                  chk ((0 : Int) ≤ 0 ∧ 0 < (y127_108.1.length : Int)) <|
                  bindv (gel y127_108.1 0 : Int) fun z139_118 =>
                  bindv (IntKind.wrap .i64 (Int.tdiv z139_118 1000000) : Int) fun z141_119 =>
                  chk ((0 : Int) ≤ 1 ∧ 1 < (y127_108.1.length : Int)) <|
                  bindv (gel y127_108.1 1 : Int) fun z143_121 =>
                  bindv (IntKind.wrap .i64 (Int.tdiv z143_121 1000000) : Int) fun z145_122 =>
                  chk ((0 : Int) ≤ 0 ∧ 0 < (x1.length : Int)) <|
                  bindv (gel x1 0 : Arg) fun z147_124 =>
                  obind (lists_Index z135_115.cols z141_119 z145_122 z147_124.l) fun y150_126 =>
                  some y150_126
                 )
                ) else (
                 bindv (decide (x0 = ([86, 76, 79, 79, 75, 85, 80] : List UInt8)) : Bool) fun z152_127 =>
                 if z152_127 = true then (
                  chk ((0 : Int) ≤ (2 : Int) ∧ (2 : Int) ≤ (x1.length : Int) ∧ (x1.length : Int) ≤ (x1.length : Int)) <|
                  bindv (cutL x1 (2 : Int) (x1.length : Int) : List (Arg)) fun z155_130 =>
                  obind (funcs_nums z155_130) fun y156_132 =>
                  bindv (decide (y156_132.2.k = 4) : Bool) fun z161_136 =>
                  if z161_136 = true then (
                   some y156_132.2
                  ) else (
                   chk ((0 : Int) ≤ 0 ∧ 0 < (x1.length : Int)) <|
                   bindv (gel x1 0 : Arg) fun z164_139 =>
                   obind (funcs_single z164_139) fun y166_141 =>
                   chk ((0 : Int) ≤ 1 ∧ 1 < (x1.length : Int)) <|
                   bindv (gel x1 1 : Arg) fun z168_143 =>
                   chk ((0 : Int) ≤ 0 ∧ 0 < (y156_132.1.length : Int)) <|
                   bindv (gel y156_132.1 0 : Int) fun z172_146 =>
                   bindv (IntKind.wrap .i64 (Int.tdiv z172_146 1000000) : Int) fun z174_147 =>
                   chk ((0 : Int) ≤ 1 ∧ 1 < (x1.length : Int)) <|
                   bindv (gel x1 1 : Arg) fun z176_149 =>
                   obind (lists_VLookup y166_141 z168_143.cols z174_147 z176_149.l) fun y179_151 =>
                   some y179_151
                  )
                 ) else (
                  chk ((0 : Int) ≤ 0 ∧ 0 < (x1.length : Int)) <|
                  bindv (gel x1 0 : Arg) fun z182_153 =>
                  obind (funcs_single z182_153) fun y184_155 =>
                  obind (funcs_kind x0 y184_155) fun y185_156 =>
                  some y185_156
                 )
                )
               )
              )
             )
            )
           )
          )
         )
        )
       )
      )
     )
    )
   )
  )
  ) : (Bool) → Option (V)) fun J5 =>
 bindv (decide (x0 = ([77, 73, 78] : List UInt8)) : Bool) fun z11_157 =>
 if z11_157 = true then (
  J5 z11_157
 ) else (
  bindv (decide (x0 = ([77, 65, 88] : List UInt8)) : Bool) fun z12_159 =>
  J5 z12_159
 )

def funcs_Apply (x0 : Int) (x1 : List (Arg)) : Option (V) :=
 obind (tree_Name x0) fun y14_2 =>
 obind (tree_Fits x0 (x1.length : Int)) fun y18_4 =>
 bindv (!y18_4 : Bool) fun z19_5 =>
 if z19_5 = true then (
  obind (value_Fail (2 : Int)) fun y20_7 =>
  some y20_7
 ) else (
  bindv ((fun s11 =>
   if s11 = true then (
    obind (funcs_nums x1) fun y38_13 =>
    bindv (decide (y38_13.2.k = 4) : Bool) fun z43_17 =>
    if z43_17 = true then (
     some y38_13.2
    ) else (
     bindv (decide ((y38_13.1.length : Int) = 1) : Bool) fun z47_20 =>
     if z47_20 = true then (
      chk ((0 : Int) ≤ 0 ∧ 0 < (y38_13.1.length : Int)) <|
      bindv (gel y38_13.1 0 : Int) fun z50_23 =>
      obind (maths_One y14_2 z50_23) fun y52_24 =>
      some y52_24
     ) else (
      chk ((0 : Int) ≤ 0 ∧ 0 < (y38_13.1.length : Int)) <|
      bindv (gel y38_13.1 0 : Int) fun z55_26 =>
      chk ((0 : Int) ≤ 1 ∧ 1 < (y38_13.1.length : Int)) <|
      bindv (gel y38_13.1 1 : Int) fun z58_28 =>
      obind (maths_Two y14_2 z55_26 z58_28) fun y60_29 =>
      some y60_29
     )
    )
   ) else (
    bindv ((fun s31 =>
     if s31 = true then (
      obind (funcs_strs x1) fun y73_33 =>
      bindv (decide (y73_33.2.k = 4) : Bool) fun z78_37 =>
      if z78_37 = true then (
       some y73_33.2
      ) else (
       bindv (decide ((y73_33.1.length : Int) = 1) : Bool) fun z82_40 =>
       bindv (!decide (y14_2 = ([67, 79, 78, 67, 65, 84] : List UInt8)) : Bool) fun z85_41 =>
       bindv (z82_40 && z85_41 : Bool) fun z86_42 =>
       if z86_42 = true then (
        chk ((0 : Int) ≤ 0 ∧ 0 < (y73_33.1.length : Int)) <|
        bindv (gel y73_33.1 0 : List UInt8) fun z89_45 =>
        obind (texts_One y14_2 z89_45) fun y91_46 =>
        some y91_46
       ) else (
        obind (texts_More y14_2 y73_33.1) fun y94_47 =>
        some y94_47
       )
      )
     ) else (
      bindv ((fun s49 =>
       if s49 = true then (
        chk ((0 : Int) ≤ (0 : Int) ∧ (0 : Int) ≤ (1 : Int) ∧ (1 : Int) ≤ (x1.length : Int)) <|
        bindv (cutL x1 (0 : Int) (1 : Int) : List (Arg)) fun z102_52 =>
        obind (funcs_strs z102_52) fun y103_54 =>
        bindv (decide (y103_54.2.k = 4) : Bool) fun z108_58 =>
        if z108_58 = true then (
         some y103_54.2
        ) else (
         chk ((0 : Int) ≤ (1 : Int) ∧ (1 : Int) ≤ (x1.length : Int) ∧ (x1.length : Int) ≤ (x1.length : Int)) <|
         bindv (cutL x1 (1 : Int) (x1.length : Int) : List (Arg)) fun z112_61 =>
         obind (funcs_nums z112_61) fun y113_63 =>
         bindv (decide (y113_63.2.k = 4) : Bool) fun z118_66 =>
         if z118_66 = true then (
          some y113_63.2
         ) else (
          chk ((0 : Int) ≤ 0 ∧ 0 < (y103_54.1.length : Int)) <|
          bindv (gel y103_54.1 0 : List UInt8) fun z122_69 =>
          obind (texts_Part y14_2 z122_69 y113_63.1) fun y125_70 =>
          some y125_70
         )
        )
       ) else (
        obind (funcs_list y14_2 x1) fun y128_71 =>
        some y128_71
       )
       ) : (Bool) → Option (V)) fun J49 =>
      bindv (decide (y14_2 = ([76, 69, 70, 84] : List UInt8)) : Bool) fun z96_72 =>
      if z96_72 = true then (
       J49 z96_72
      ) else (
       bindv (decide (y14_2 = ([82, 73, 71, 72, 84] : List UInt8)) : Bool) fun z97_74 =>
       if z97_74 = true then (
        J49 z97_74
       ) else (
        bindv (decide (y14_2 = ([77, 73, 68] : List UInt8)) : Bool) fun z98_76 =>
        if z98_76 = true then (
         J49 z98_76
        ) else (
         bindv (decide (y14_2 = ([82, 69, 80, 84] : List UInt8)) : Bool) fun z99_78 =>
         J49 z99_78
        )
       )
      )
     )
     ) : (Bool) → Option (V)) fun J31 =>
    bindv (decide (y14_2 = ([76, 69, 78] : List UInt8)) : Bool) fun z62_79 =>
    if z62_79 = true then (
     J31 z62_79
    ) else (
     bindv (decide (y14_2 = ([85, 80, 80, 69, 82] : List UInt8)) : Bool) fun z63_81 =>
     if z63_81 = true then (
      J31 z63_81
     ) else (
      bindv (decide (y14_2 = ([76, 79, 87, 69, 82] : List UInt8)) : Bool) fun z64_83 =>
      if z64_83 = true then (
       J31 z64_83
      ) else (
       bindv (decide (y14_2 = ([84, 82, 73, 77] : List UInt8)) : Bool) fun z65_85 =>
       if z65_85 = true then (
        J31 z65_85
       ) else (
        bindv (decide (y14_2 = ([86, 65, 76, 85, 69] : List UInt8)) : Bool) fun z66_87 =>
        if z66_87 = true then (
         J31 z66_87
        ) else (
         bindv (decide (y14_2 = ([67, 79, 78, 67, 65, 84] : List UInt8)) : Bool) fun z67_89 =>
         if z67_89 = true then (
          J31 z67_89
         ) else (
          bindv (decide (y14_2 = ([69, 88, 65, 67, 84] : List UInt8)) : Bool) fun z68_91 =>
          if z68_91 = true then (
           J31 z68_91
          ) else (
           bindv (decide (y14_2 = ([70, 73, 78, 68] : List UInt8)) : Bool) fun z69_93 =>
           if z69_93 = true then (
            J31 z69_93
           ) else (
            bindv (decide (y14_2 = ([83, 85, 66, 83, 84, 73, 84, 85, 84, 69] : List UInt8)) : Bool) fun z70_95 =>
            J31 z70_95
           )
          )
         )
        )
       )
      )
     )
    )
   )
   ) : (Bool) → Option (V)) fun J11 =>
  bindv (decide (y14_2 = ([65, 66, 83] : List UInt8)) : Bool) fun z23_96 =>
  if z23_96 = true then (
   J11 z23_96
  ) else (
   bindv (decide (y14_2 = ([83, 73, 71, 78] : List UInt8)) : Bool) fun z24_98 =>
   if z24_98 = true then (
    J11 z24_98
   ) else (
    bindv (decide (y14_2 = ([73, 78, 84] : List UInt8)) : Bool) fun z25_100 =>
    if z25_100 = true then (
     J11 z25_100
    ) else (
     bindv (decide (y14_2 = ([84, 82, 85, 78, 67] : List UInt8)) : Bool) fun z26_102 =>
     if z26_102 = true then (
      J11 z26_102
     ) else (
      bindv (decide (y14_2 = ([69, 86, 69, 78] : List UInt8)) : Bool) fun z27_104 =>
      if z27_104 = true then (
       J11 z27_104
      ) else (
       bindv (decide (y14_2 = ([79, 68, 68] : List UInt8)) : Bool) fun z28_106 =>
       if z28_106 = true then (
        J11 z28_106
       ) else (
        bindv (decide (y14_2 = ([70, 65, 67, 84] : List UInt8)) : Bool) fun z29_108 =>
        if z29_108 = true then (
         J11 z29_108
        ) else (
         bindv (decide (y14_2 = ([82, 79, 85, 78, 68] : List UInt8)) : Bool) fun z30_110 =>
         if z30_110 = true then (
          J11 z30_110
         ) else (
          bindv (decide (y14_2 = ([77, 79, 68] : List UInt8)) : Bool) fun z31_112 =>
          if z31_112 = true then (
           J11 z31_112
          ) else (
           bindv (decide (y14_2 = ([80, 79, 87, 69, 82] : List UInt8)) : Bool) fun z32_114 =>
           if z32_114 = true then (
            J11 z32_114
           ) else (
            bindv (decide (y14_2 = ([81, 85, 79, 84, 73, 69, 78, 84] : List UInt8)) : Bool) fun z33_116 =>
            if z33_116 = true then (
             J11 z33_116
            ) else (
             bindv (decide (y14_2 = ([71, 67, 68] : List UInt8)) : Bool) fun z34_118 =>
             if z34_118 = true then (
              J11 z34_118
             ) else (
              bindv (decide (y14_2 = ([76, 67, 77] : List UInt8)) : Bool) fun z35_120 =>
              J11 z35_120
             )
            )
           )
          )
         )
        )
       )
      )
     )
    )
   )
  )
 )

def funcs_Binary (x0 : Int) (x1 : V) (x2 : V) : Option (V) :=
 bindv (decide (6 ≤ x0) : Bool) fun z12_5 =>
 if z12_5 = true then (
  obind (value_Compare x1 x2) fun y15_7 =>
  bindv (decide (y15_7 = 0) : Bool) fun z17_8 =>
  bindv (!decide (y15_7 = 0) : Bool) fun z19_9 =>
  bindv (decide (y15_7 < 0) : Bool) fun z21_10 =>
  bindv (decide (y15_7 ≤ 0) : Bool) fun z23_11 =>
  bindv (decide (0 < y15_7) : Bool) fun z25_12 =>
  bindv (decide (0 ≤ y15_7) : Bool) fun z27_13 =>
  bindv (IntKind.wrap .i64 (x0 - 6) : Int) fun z30_14 =>
  chk ((0 : Int) ≤ z30_14 ∧ z30_14 < (6 : Int)) <|
  bindv (gel [z17_8, z19_9, z21_10, z23_11, z25_12, z27_13] z30_14 : Bool) fun z31_16 =>
  obind (value_Bool z31_16) fun y32_17 =>
  some y32_17
 ) else (
  bindv (decide (x0 = 5) : Bool) fun z35_18 =>
  if z35_18 = true then (
   obind (value_Show x1) fun y37_20 =>
   obind (value_Show x2) fun y39_21 =>
   chk (y37_20.length + y39_21.length ≤ 9223372036854775807) <|
   bindv (y37_20 ++ y39_21 : List UInt8) fun z40_23 =>
   obind (value_Text z40_23) fun y41_24 =>
   some y41_24
  ) else (
   obind (value_ToNum x1) fun y43_25 =>
   obind (value_ToNum x2) fun y45_26 =>
   bindv (decide (y43_25.k = 4) : Bool) fun z48_30 =>
   if z48_30 = true then (
    some y43_25
   ) else (
    bindv (decide (y45_26.k = 4) : Bool) fun z52_33 =>
    if z52_33 = true then (
     some y45_26
    ) else (
     bindv (decide (x0 = 1) : Bool) fun z56_37 =>
     if z56_37 = true then (
      obind (num_Add y43_25.n y45_26.n) fun y61_39 =>
      obind (value_Made y61_39.1 y61_39.2) fun y64_40 =>
      some y64_40
     ) else (
      bindv (decide (x0 = 2) : Bool) fun z66_41 =>
      if z66_41 = true then (
       obind (num_Sub y43_25.n y45_26.n) fun y71_43 =>
       obind (value_Made y71_43.1 y71_43.2) fun y74_44 =>
       some y74_44
      ) else (
       bindv (decide (x0 = 3) : Bool) fun z76_45 =>
       if z76_45 = true then (
        obind (num_Mul y43_25.n y45_26.n) fun y81_47 =>
        obind (value_Made y81_47.1 y81_47.2) fun y84_48 =>
        some y84_48
       ) else (
        bindv (decide (y45_26.n = 0) : Bool) fun z87_50 =>
        if z87_50 = true then (
         obind (value_Fail (1 : Int)) fun y88_52 =>
         some y88_52
        ) else (
         obind (num_Quo y43_25.n y45_26.n) fun y93_53 =>
         obind (value_Made y93_53.1 y93_53.2) fun y96_54 =>
         some y96_54
        )
       )
      )
     )
    )
   )
  )
 )

def reckonerlaw12_fit  : Option (Bool) :=
 obind (value_Num (1000000 : Int)) fun y1_1 =>
 obind (value_Bool true) fun y2_2 =>
 obind (funcs_Binary (5 : Int) y1_1 y2_2) fun y3_3 =>
 obind (value_Text ([49, 84, 82, 85, 69] : List UInt8)) fun y4_4 =>
 bindv ((decide (y3_3.k = y4_4.k) && (decide (y3_3.n = y4_4.n) && decide (y3_3.s = y4_4.s))) : Bool) fun z5_5 =>
 obind (if z5_5 = true then num_Print (0 : Int) else some default) fun y7_6 =>
 bindv (decide (y7_6 = ([48] : List UInt8)) : Bool) fun z8_7 =>
 bindv (z5_5 && z8_7 : Bool) fun z9_8 =>
 some z9_8
end Go.Sp
