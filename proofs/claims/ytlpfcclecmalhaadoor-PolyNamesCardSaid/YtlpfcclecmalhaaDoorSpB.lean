/- What functions of the program compute, as partial functions: printed off the program's form (no proof here). -/
import Derived.Test.YtlpfcclecmalhaaDoorSpA
set_option linter.unusedSimpArgs false
set_option linter.unusedVariables false
set_option linter.unusedSectionVars false
namespace Go.Sp
open Go.Stp Go.ValP
def slices_swapRangeCmpFunc_Term (x0 : List (T)) (x1 : Int) (x2 : Int) (x3 : Int) (x4 : T → T → Option (Int)) : Option (List (T)) :=
 bindv (fun (n2 : (Int × (List (T))) → Option (List (T))) (s2 : Int × (List (T))) =>
  bindv (decide (s2.1 < x3) : Bool) fun z13_6 =>
  if z13_6 = true then (
   bindv (IntKind.wrap .i64 (x1 + s2.1) : Int) fun z19_9 =>
   bindv (IntKind.wrap .i64 (x2 + s2.1) : Int) fun z23_10 =>
   chk ((0 : Int) ≤ z23_10 ∧ z23_10 < (s2.2.length : Int)) <|
   chk ((0 : Int) ≤ z19_9 ∧ z19_9 < (s2.2.length : Int)) <|
   bindv ((s2.2.set (Int.toNat z19_9) (gel s2.2 z23_10)).set (Int.toNat z23_10) (gel s2.2 z19_9) : List (T)) fun zrow_14 =>
   bindv (IntKind.wrap .i64 (s2.1 + 1) : Int) fun z15_16 =>
   n2 (z15_16, zrow_14)
  ) else (
   some s2.2
  )
  ) fun B2 =>
 loopF B2 KK (0, x0)

def slices_rotateCmpFunc_Term (x0 : List (T)) (x1 : Int) (x2 : Int) (x3 : Int) (x4 : T → T → Option (Int)) : Option (List (T)) :=
 bindv (IntKind.wrap .i64 (x2 - x1) : Int) fun z14_1 =>
 bindv (IntKind.wrap .i64 (x3 - x2) : Int) fun z17_2 =>
 bindv ((fun s4 =>
  bindv (IntKind.wrap .i64 (x2 - s4.1) : Int) fun z53_6 =>
  obind (slices_swapRangeCmpFunc_Term s4.2 z53_6 x2 s4.1 x4) fun y57_7 =>
  some y57_7
  ) : (Int × (List (T))) → Option (List (T))) fun J4 =>
 bindv (fun (n9 : (Int × Int × (List (T))) → Option (List (T))) (s9 : Int × Int × (List (T))) =>
  bindv (!decide (s9.1 = s9.2.1) : Bool) fun z20_13 =>
  if z20_13 = true then (
   bindv (decide (s9.2.1 < s9.1) : Bool) fun z23_16 =>
   if z23_16 = true then (
    bindv (IntKind.wrap .i64 (x2 - s9.1) : Int) fun z27_18 =>
    obind (slices_swapRangeCmpFunc_Term s9.2.2 z27_18 x2 s9.2.1 x4) fun y31_19 =>
    bindv (IntKind.wrap .i64 (s9.1 - s9.2.1) : Int) fun z34_21 =>
    n9 (z34_21, s9.2.1, y31_19)
   ) else (
    bindv (IntKind.wrap .i64 (x2 - s9.1) : Int) fun z38_22 =>
    bindv (IntKind.wrap .i64 (x2 + s9.2.1) : Int) fun z41_23 =>
    bindv (IntKind.wrap .i64 (z41_23 - s9.1) : Int) fun z43_24 =>
    obind (slices_swapRangeCmpFunc_Term s9.2.2 z38_22 z43_24 s9.1 x4) fun y46_25 =>
    bindv (IntKind.wrap .i64 (s9.2.1 - s9.1) : Int) fun z49_27 =>
    n9 (s9.1, z49_27, y46_25)
   )
  ) else (
   J4 (s9.1, s9.2.2)
  )
  ) fun B9 =>
 loopF B9 KK (z14_1, z17_2, x0)

def slices_insertionSortCmpFunc_Term (x0 : List (T)) (x1 : Int) (x2 : Int) (x3 : T → T → Option (Int)) : Option (List (T)) :=
 bindv (IntKind.wrap .i64 (x1 + 1) : Int) fun z11_1 =>
 bindv (fun (n3 : (Int × (List (T))) → Option (List (T))) (s3 : Int × (List (T))) =>
  bindv (decide (s3.1 < x2) : Bool) fun z14_7 =>
  if z14_7 = true then (
   bindv ((fun s10 =>
    bindv (IntKind.wrap .i64 (s3.1 + 1) : Int) fun z16_12 =>
    n3 (z16_12, s10)
    ) : ((List (T))) → Option (List (T))) fun J10 =>
   bindv (fun (n14 : (Int × (List (T))) → Option (List (T))) (s14 : Int × (List (T))) =>
    bindv (decide (x1 < s14.1) : Bool) fun z20_18 =>
    chk (z20_18 = true → (0 : Int) ≤ s14.1 ∧ s14.1 < (s14.2.length : Int)) <|
    bindv (gel s14.2 s14.1 : T) fun z25_20 =>
    bindv (IntKind.wrap .i64 (s14.1 - 1) : Int) fun z29_22 =>
    chk (z20_18 = true → (0 : Int) ≤ z29_22 ∧ z29_22 < (s14.2.length : Int)) <|
    bindv (gel s14.2 z29_22 : T) fun z30_24 =>
    obind (if z20_18 = true then x3 z25_20 z30_24 else some default) fun y32_26 =>
    bindv (decide (y32_26 < 0) : Bool) fun z33_27 =>
    bindv (z20_18 && z33_27 : Bool) fun z34_28 =>
    if z34_28 = true then (
     bindv (IntKind.wrap .i64 (s14.1 - 1) : Int) fun z41_31 =>
     chk ((0 : Int) ≤ z41_31 ∧ z41_31 < (s14.2.length : Int)) <|
     chk ((0 : Int) ≤ s14.1 ∧ s14.1 < (s14.2.length : Int)) <|
     bindv ((s14.2.set (Int.toNat s14.1) (gel s14.2 z41_31)).set (Int.toNat z41_31) (gel s14.2 s14.1) : List (T)) fun zrow_35 =>
     bindv (IntKind.wrap .i64 (s14.1 - 1) : Int) fun z36_37 =>
     n14 (z36_37, zrow_35)
    ) else (
     J10 s14.2
    )
    ) fun B14 =>
   loopF B14 KK (s3.1, s3.2)
  ) else (
   some s3.2
  )
  ) fun B3 =>
 loopF B3 KK (z11_1, x0)

def slices_symMergeCmpFunc_Term_B (rec : List (T) → Int → Int → Int → (T → T → Option (Int)) → Option (List (T))) (x0 : List (T)) (x1 : Int) (x2 : Int) (x3 : Int) (x4 : T → T → Option (Int)) : Option (List (T)) :=
 bindv ((fun s2 =>
  bindv ((fun s5 =>
   bindv (IntKind.wrap .i64 (x1 + x3) : Int) fun z131_7 =>
   bindv (IntKind.wrap .u64 z131_7 : Int) fun z132_8 =>
   chk ((0 : Int) ≤ 1) <|
   bindv (shrI .u64 z132_8 1 : Int) fun z133_10 =>
   bindv (IntKind.wrap .i64 z133_10 : Int) fun z134_11 =>
   bindv (IntKind.wrap .i64 (z134_11 + x2) : Int) fun z137_12 =>
   bindv ((fun s14 =>
    bindv (IntKind.wrap .i64 (z137_12 - 1) : Int) fun z148_15 =>
    bindv ((fun s17 =>
     bindv (IntKind.wrap .i64 (z137_12 - s17) : Int) fun z177_18 =>
     bindv ((fun s20 =>
      bindv ((fun s23 =>
       bindv (decide (z134_11 < z177_18) : Bool) fun z208_25 =>
       bindv (decide (z177_18 < x3) : Bool) fun z212_26 =>
       bindv (z208_25 && z212_26 : Bool) fun z213_27 =>
       if z213_27 = true then (
        obind (rec s23 z134_11 z177_18 x3 x4) fun y219_29 =>
        some y219_29
       ) else (
        some s23
       )
       ) : ((List (T))) → Option (List (T))) fun J23 =>
      bindv (decide (x1 < s17) : Bool) fun z194_31 =>
      bindv (decide (s17 < z134_11) : Bool) fun z198_32 =>
      bindv (z194_31 && z198_32 : Bool) fun z199_33 =>
      if z199_33 = true then (
       obind (rec s20 x1 s17 z134_11 x4) fun y205_35 =>
       J23 y205_35
      ) else (
       J23 s20
      )
      ) : ((List (T))) → Option (List (T))) fun J20 =>
     bindv (decide (s17 < x2) : Bool) fun z180_37 =>
     bindv (decide (x2 < z177_18) : Bool) fun z184_38 =>
     bindv (z180_37 && z184_38 : Bool) fun z185_39 =>
     if z185_39 = true then (
      obind (slices_rotateCmpFunc_Term s5 s17 x2 z177_18 x4) fun y191_41 =>
      J20 y191_41
     ) else (
      J20 s5
     )
     ) : (Int) → Option (List (T))) fun J17 =>
    bindv (fun (n43 : (Int × Int) → Option (List (T))) (s43 : Int × Int) =>
     bindv (decide (s43.1 < s43.2) : Bool) fun z151_46 =>
     if z151_46 = true then (
      bindv (IntKind.wrap .i64 (s43.1 + s43.2) : Int) fun z154_49 =>
      bindv (IntKind.wrap .u64 z154_49 : Int) fun z155_50 =>
      chk ((0 : Int) ≤ 1) <|
      bindv (shrI .u64 z155_50 1 : Int) fun z156_52 =>
      bindv (IntKind.wrap .i64 z156_52 : Int) fun z157_53 =>
      bindv (IntKind.wrap .i64 (z148_15 - z157_53) : Int) fun z162_54 =>
      chk ((0 : Int) ≤ z162_54 ∧ z162_54 < (s5.length : Int)) <|
      bindv (gel s5 z162_54 : T) fun z163_56 =>
      chk ((0 : Int) ≤ z157_53 ∧ z157_53 < (s5.length : Int)) <|
      bindv (gel s5 z157_53 : T) fun z167_59 =>
      obind (x4 z163_56 z167_59) fun y169_61 =>
      bindv (decide (y169_61 < 0) : Bool) fun z170_62 =>
      bindv (!z170_62 : Bool) fun z171_63 =>
      if z171_63 = true then (
       bindv (IntKind.wrap .i64 (z157_53 + 1) : Int) fun z173_65 =>
       n43 (z173_65, s43.2)
      ) else (
       n43 (s43.1, z157_53)
      )
     ) else (
      J17 s43.1
     )
     ) fun B43 =>
    loopF B43 KK (s14.1, s14.2)
    ) : (Int × Int) → Option (List (T))) fun J14 =>
   bindv (decide (z134_11 < x2) : Bool) fun z140_66 =>
   if z140_66 = true then (
    bindv (IntKind.wrap .i64 (z137_12 - x3) : Int) fun z143_68 =>
    J14 (z143_68, z134_11)
   ) else (
    J14 (x1, x2)
   )
   ) : ((List (T))) → Option (List (T))) fun J5 =>
  bindv (IntKind.wrap .i64 (x3 - x2) : Int) fun z79_69 =>
  bindv (decide (z79_69 = 1) : Bool) fun z80_70 =>
  if z80_70 = true then (
   bindv ((fun s73 =>
    bindv (fun (n76 : (Int × (List (T))) → Option (List (T))) (s76 : Int × (List (T))) =>
     bindv (decide (s73 < s76.1) : Bool) fun z110_80 =>
     if z110_80 = true then (
      bindv (IntKind.wrap .i64 (s76.1 - 1) : Int) fun z117_83 =>
      chk ((0 : Int) ≤ z117_83 ∧ z117_83 < (s76.2.length : Int)) <|
      chk ((0 : Int) ≤ s76.1 ∧ s76.1 < (s76.2.length : Int)) <|
      bindv ((s76.2.set (Int.toNat s76.1) (gel s76.2 z117_83)).set (Int.toNat z117_83) (gel s76.2 s76.1) : List (T)) fun zrow_87 =>
      bindv (IntKind.wrap .i64 (s76.1 - 1) : Int) fun z112_89 =>
      n76 (z112_89, zrow_87)
     ) else (
      some s76.2
     )
     ) fun B76 =>
    loopF B76 KK (x2, s2)
    ) : (Int) → Option (List (T))) fun J73 =>
   bindv (fun (n90 : (Int × Int) → Option (List (T))) (s90 : Int × Int) =>
    bindv (decide (s90.1 < s90.2) : Bool) fun z85_93 =>
    if z85_93 = true then (
     bindv (IntKind.wrap .i64 (s90.1 + s90.2) : Int) fun z88_96 =>
     bindv (IntKind.wrap .u64 z88_96 : Int) fun z89_97 =>
     chk ((0 : Int) ≤ 1) <|
     bindv (shrI .u64 z89_97 1 : Int) fun z90_99 =>
     bindv (IntKind.wrap .i64 z90_99 : Int) fun z91_100 =>
     chk ((0 : Int) ≤ x2 ∧ x2 < (s2.length : Int)) <|
     bindv (gel s2 x2 : T) fun z95_102 =>
     chk ((0 : Int) ≤ z91_100 ∧ z91_100 < (s2.length : Int)) <|
     bindv (gel s2 z91_100 : T) fun z99_105 =>
     obind (x4 z95_102 z99_105) fun y101_107 =>
     bindv (decide (y101_107 < 0) : Bool) fun z102_108 =>
     bindv (!z102_108 : Bool) fun z103_109 =>
     if z103_109 = true then (
      bindv (IntKind.wrap .i64 (z91_100 + 1) : Int) fun z105_111 =>
      n90 (z105_111, s90.2)
     ) else (
      n90 (s90.1, z91_100)
     )
    ) else (
     J73 s90.1
    )
    ) fun B90 =>
   loopF B90 KK (x1, x2)
  ) else (
   J5 s2
  )
  ) : ((List (T))) → Option (List (T))) fun J2 =>
 bindv (IntKind.wrap .i64 (x2 - x1) : Int) fun z27_112 =>
 bindv (decide (z27_112 = 1) : Bool) fun z28_113 =>
 if z28_113 = true then (
  bindv ((fun s116 =>
   bindv (fun (n119 : (Int × (List (T))) → Option (List (T))) (s119 : Int × (List (T))) =>
    bindv (IntKind.wrap .i64 (s116 - 1) : Int) fun z57_123 =>
    bindv (decide (s119.1 < z57_123) : Bool) fun z58_124 =>
    if z58_124 = true then (
     bindv (IntKind.wrap .i64 (s119.1 + 1) : Int) fun z65_127 =>
     chk ((0 : Int) ≤ z65_127 ∧ z65_127 < (s119.2.length : Int)) <|
     chk ((0 : Int) ≤ s119.1 ∧ s119.1 < (s119.2.length : Int)) <|
     bindv ((s119.2.set (Int.toNat s119.1) (gel s119.2 z65_127)).set (Int.toNat z65_127) (gel s119.2 s119.1) : List (T)) fun zrow_131 =>
     bindv (IntKind.wrap .i64 (s119.1 + 1) : Int) fun z60_133 =>
     n119 (z60_133, zrow_131)
    ) else (
     some s119.2
    )
    ) fun B119 =>
   loopF B119 KK (x1, x0)
   ) : (Int) → Option (List (T))) fun J116 =>
  bindv (fun (n134 : (Int × Int) → Option (List (T))) (s134 : Int × Int) =>
   bindv (decide (s134.1 < s134.2) : Bool) fun z33_137 =>
   if z33_137 = true then (
    bindv (IntKind.wrap .i64 (s134.1 + s134.2) : Int) fun z36_140 =>
    bindv (IntKind.wrap .u64 z36_140 : Int) fun z37_141 =>
    chk ((0 : Int) ≤ 1) <|
    bindv (shrI .u64 z37_141 1 : Int) fun z38_143 =>
    bindv (IntKind.wrap .i64 z38_143 : Int) fun z39_144 =>
    chk ((0 : Int) ≤ z39_144 ∧ z39_144 < (x0.length : Int)) <|
    bindv (gel x0 z39_144 : T) fun z43_146 =>
    chk ((0 : Int) ≤ x1 ∧ x1 < (x0.length : Int)) <|
    bindv (gel x0 x1 : T) fun z47_149 =>
    obind (x4 z43_146 z47_149) fun y49_151 =>
    bindv (decide (y49_151 < 0) : Bool) fun z50_152 =>
    if z50_152 = true then (
     bindv (IntKind.wrap .i64 (z39_144 + 1) : Int) fun z52_154 =>
     n134 (z52_154, s134.2)
    ) else (
     n134 (s134.1, z39_144)
    )
   ) else (
    J116 s134.1
   )
   ) fun B134 =>
  loopF B134 KK (x2, x3)
 ) else (
  J2 x0
 )
def slices_symMergeCmpFunc_Term : Nat → List (T) → Int → Int → Int → (T → T → Option (Int)) → Option (List (T))
 | 0, _, _, _, _, _ => none
 | k + 1, x0, x1, x2, x3, x4 => slices_symMergeCmpFunc_Term_B (slices_symMergeCmpFunc_Term k) x0 x1 x2 x3 x4
end Go.Sp
