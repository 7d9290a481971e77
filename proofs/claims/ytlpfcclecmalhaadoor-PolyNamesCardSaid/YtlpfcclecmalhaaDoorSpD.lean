/- What functions of the program compute, as partial functions: printed off the program's form (no proof here). -/
import Derived.Test.YtlpfcclecmalhaaDoorSpC
set_option linter.unusedSimpArgs false
set_option linter.unusedVariables false
set_option linter.unusedSectionVars false
namespace Go.Sp
open Go.Stp Go.ValP
def poly_norm (x0 : List (T)) : Option ((List (T)) × Bool) :=
 obind (slices_SortStableFunc_Term x0 poly_norm_1) fun y13_1 =>
 bindv ((fun s4 =>
  bindv (decide (32 < (s4.length : Int)) : Bool) fun z64_8 =>
  if z64_8 = true then (
   some ([], false)
  ) else (
   bindv ((fun s11 =>
    some (s4, true)
    ) : (Unit) → Option ((List (T)) × Bool)) fun J11 =>
   bindv (fun (n13 : (Int) → Option ((List (T)) × Bool)) (s13 : Int) =>
    bindv (decide (s13 < (s4.length : Int)) : Bool) fun z68_15 =>
    if z68_15 = true then (
     chk ((0 : Int) ≤ s13 ∧ s13 < (s4.length : Int)) <|
     bindv (gel s4 s13 : T) fun z69_20 =>
     bindv (decide (4 < (z69_20.v.length : Int)) : Bool) fun z74_23 =>
     bindv (decide (1000000 < z69_20.n) : Bool) fun z78_24 =>
     bindv (z74_23 || z78_24 : Bool) fun z79_25 =>
     if z79_25 = true then (
      some ([], false)
     ) else (
      bindv (IntKind.wrap .i64 (s13 + 1) : Int) fun z80_27 =>
      n13 z80_27
     )
    ) else (
     J11 ()
    )
    ) fun B13 =>
   loopF B13 KK 0
  )
  ) : ((List (T))) → Option ((List (T)) × Bool)) fun J4 =>
 bindv (fun (n29 : (Int × (List (T))) → Option ((List (T)) × Bool)) (s29 : Int × (List (T))) =>
  bindv (decide (s29.1 < (y13_1.length : Int)) : Bool) fun z17_32 =>
  if z17_32 = true then (
   chk ((0 : Int) ≤ s29.1 ∧ s29.1 < (y13_1.length : Int)) <|
   bindv (gel y13_1 s29.1 : T) fun z18_37 =>
   bindv (IntKind.wrap .i64 ((s29.2.length : Int) - 1) : Int) fun z22_40 =>
   bindv (decide (z18_37.n = 0) : Bool) fun z25_42 =>
   if z25_42 = true then (
    bindv (IntKind.wrap .i64 (s29.1 + 1) : Int) fun z61_44 =>
    n29 (z61_44, s29.2)
   ) else (
    bindv (decide (z22_40 < 0) : Bool) fun z27_46 =>
    chk ((!z27_46) = true → (0 : Int) ≤ z22_40 ∧ z22_40 < (s29.2.length : Int)) <|
    bindv (gel s29.2 z22_40 : T) fun z31_48 =>
    obind (if (!z27_46) = true then poly_less z31_48.v z18_37.v else some default) fun y36_50 =>
    bindv (!decide (y36_50 = 0) : Bool) fun z37_51 =>
    bindv (z27_46 || z37_51 : Bool) fun z38_52 =>
    if z38_52 = true then (
     chk (s29.2.length + [z18_37].length ≤ 9223372036854775807 ∧ (s29.2.length + [z18_37].length) * 32 ≤ 140737488355328) <|
     bindv (s29.2 ++ [z18_37] : List (T)) fun z42_57 =>
     bindv (IntKind.wrap .i64 (s29.1 + 1) : Int) fun z61_58 =>
     n29 (z61_58, z42_57)
    ) else (
     chk ((0 : Int) ≤ z22_40 ∧ z22_40 < (s29.2.length : Int)) <|
     bindv (gel s29.2 z22_40 : T) fun z46_60 =>
     obind (num_Add z46_60.n z18_37.n) fun y51_62 =>
     bindv (!y51_62.2 : Bool) fun z55_64 =>
     if z55_64 = true then (
      some ([], false)
     ) else (
      chk ((0 : Int) ≤ z22_40 ∧ z22_40 < (s29.2.length : Int)) <|
      bindv (gel s29.2 z22_40 : T) fun z59_67 =>
      bindv (s29.2.set (Int.toNat z22_40) (⟨y51_62.1, z59_67.v⟩ : T) : List (T)) fun zr1_69 =>
      bindv (IntKind.wrap .i64 (s29.1 + 1) : Int) fun z61_70 =>
      n29 (z61_70, zr1_69)
     )
    )
   )
  ) else (
   J4 s29.2
  )
  ) fun B29 =>
 loopF B29 KK (0, ([] : List (T)))

def poly_Const (x0 : Int) : Option ((List (T)) × Bool) :=
 bindv (decide (x0 < 0) : Bool) fun z5_2 =>
 bindv (decide (1000000 < x0) : Bool) fun z8_3 =>
 bindv (z5_2 || z8_3 : Bool) fun z9_4 =>
 if z9_4 = true then (
  some ([], false)
 ) else (
  obind (poly_norm ([(⟨x0, []⟩ : T)])) fun y13_7 =>
  some (y13_7.1, y13_7.2)
 )

def poly_Var (x0 : C) : Option ((List (T))) :=
 some ([(⟨1, [x0]⟩ : T)])

def poly_Add (x0 : List (List (T))) : Option ((List (T)) × Bool) :=
 bindv ((fun s2 =>
  obind (poly_norm s2) fun y18_4 =>
  some (y18_4.1, y18_4.2)
  ) : ((List (T))) → Option ((List (T)) × Bool)) fun J2 =>
 bindv (fun (n7 : (Int × (List (T))) → Option ((List (T)) × Bool)) (s7 : Int × (List (T))) =>
  bindv (decide (s7.1 < (x0.length : Int)) : Bool) fun z10_10 =>
  if z10_10 = true then (
   chk ((0 : Int) ≤ s7.1 ∧ s7.1 < (x0.length : Int)) <|
   bindv (gel x0 s7.1 : List (T)) fun z11_15 =>
   chk (s7.2.length + z11_15.length ≤ 9223372036854775807 ∧ (s7.2.length + z11_15.length) * 32 ≤ 140737488355328) <|
   bindv (s7.2 ++ z11_15 : List (T)) fun z15_19 =>
   bindv (IntKind.wrap .i64 (s7.1 + 1) : Int) fun z16_20 =>
   n7 (z16_20, z15_19)
  ) else (
   J2 s7.2
  )
  ) fun B7 =>
 loopF B7 KK (0, ([] : List (T)))

def poly_Mul (x0 : List (T)) (x1 : List (T)) : Option ((List (T)) × Bool) :=
 bindv ((fun s2 =>
  obind (poly_norm s2) fun y45_4 =>
  some (y45_4.1, y45_4.2)
  ) : ((List (T))) → Option ((List (T)) × Bool)) fun J2 =>
 bindv (fun (n7 : (Int × (List (T))) → Option ((List (T)) × Bool)) (s7 : Int × (List (T))) =>
  bindv (decide (s7.1 < (x0.length : Int)) : Bool) fun z15_10 =>
  if z15_10 = true then (
   chk ((0 : Int) ≤ s7.1 ∧ s7.1 < (x0.length : Int)) <|
   bindv (gel x0 s7.1 : T) fun z16_15 =>
   bindv (fun (n19 : (Int × (List (T))) → Option ((List (T)) × Bool)) (s19 : Int × (List (T))) =>
    bindv (decide (s19.1 < (x1.length : Int)) : Bool) fun z21_22 =>
    if z21_22 = true then (
     chk ((0 : Int) ≤ s19.1 ∧ s19.1 < (x1.length : Int)) <|
     bindv (gel x1 s19.1 : T) fun z22_27 =>
     chk (0 + z16_15.v.length ≤ 9223372036854775807 ∧ (0 + z16_15.v.length) * 24 ≤ 140737488355328) <|
     chk (z16_15.v.length + z22_27.v.length ≤ 9223372036854775807 ∧ (z16_15.v.length + z22_27.v.length) * 24 ≤ 140737488355328) <|
     bindv (z16_15.v ++ z22_27.v : List (C)) fun zapp_33 =>
     obind (slices_SortFunc_Cell zapp_33 poly_Mul_1) fun y31_34 =>
     bindv (IntKind.wrap .i64 (z16_15.n * z22_27.n) : Int) fun z37_36 =>
     chk (s19.2.length + [(⟨z37_36, y31_34⟩ : T)].length ≤ 9223372036854775807 ∧ (s19.2.length + [(⟨z37_36, y31_34⟩ : T)].length) * 32 ≤ 140737488355328) <|
     bindv (s19.2 ++ [(⟨z37_36, y31_34⟩ : T)] : List (T)) fun z41_41 =>
     bindv (IntKind.wrap .i64 (s19.1 + 1) : Int) fun z42_42 =>
     n19 (z42_42, z41_41)
    ) else (
     bindv (IntKind.wrap .i64 (s7.1 + 1) : Int) fun z43_43 =>
     n7 (z43_43, s19.2)
    )
    ) fun B19 =>
   loopF B19 KK (0, s7.2)
  ) else (
   J2 s7.2
  )
  ) fun B7 =>
 loopF B7 KK (0, ([] : List (T)))

def poly_Print (x0 : List (T)) : Option ((List UInt8)) :=
 bindv (decide ((x0.length : Int) = 0) : Bool) fun z10_2 =>
 if z10_2 = true then (
  some ([48] : List UInt8)
 ) else (
  bindv ((fun s5 =>
   some s5
   ) : ((List UInt8)) → Option ((List UInt8))) fun J5 =>
  bindv (fun (n7 : ((List UInt8) × Int) → Option ((List UInt8))) (s7 : (List UInt8) × Int) =>
   bindv (decide (s7.2 < (x0.length : Int)) : Bool) fun z14_9 =>
   if z14_9 = true then (
    chk ((0 : Int) ≤ s7.2 ∧ s7.2 < (x0.length : Int)) <|
    bindv (gel x0 s7.2 : T) fun z16_14 =>
    bindv ((fun s18 =>
     bindv ((fun s20 =>
      bindv (fun (n22 : ((List UInt8) × Int) → Option ((List UInt8))) (s22 : (List UInt8) × Int) =>
       bindv (decide (s22.2 < (z16_14.v.length : Int)) : Bool) fun z46_24 =>
       if z46_24 = true then (
        chk ((0 : Int) ≤ s22.2 ∧ s22.2 < (z16_14.v.length : Int)) <|
        bindv (gel z16_14.v s22.2 : C) fun z48_29 =>
        bindv ((fun s32 =>
         obind (addr_Print z48_29) fun y56_33 =>
         chk (s32.length + y56_33.length ≤ 9223372036854775807) <|
         bindv (s32 ++ y56_33 : List UInt8) fun z57_35 =>
         bindv (IntKind.wrap .i64 (s22.2 + 1) : Int) fun z58_36 =>
         n22 (z57_35, z58_36)
         ) : ((List UInt8)) → Option ((List UInt8))) fun J32 =>
        bindv (decide (0 < s22.2) : Bool) fun z51_37 =>
        if z51_37 = true then (
         chk (s22.1.length + ([42] : List UInt8).length ≤ 9223372036854775807) <|
         bindv (s22.1 ++ ([42] : List UInt8) : List UInt8) fun z53_40 =>
         J32 z53_40
        ) else (
         J32 s22.1
        )
       ) else (
        bindv (IntKind.wrap .i64 (s7.2 + 1) : Int) fun z59_41 =>
        n7 (s22.1, z59_41)
       )
       ) fun B22 =>
      loopF B22 KK (s20, 0)
      ) : ((List UInt8)) → Option ((List UInt8))) fun J20 =>
     bindv (!decide (z16_14.n = 1) : Bool) fun z24_42 =>
     bindv (decide ((z16_14.v.length : Int) = 0) : Bool) fun z29_43 =>
     bindv (z24_42 || z29_43 : Bool) fun z30_44 =>
     if z30_44 = true then (
      chk (((-9223372036854775808 : Int) ≤ z16_14.n ∧ z16_14.n ≤ 9223372036854775807) ∧ (10 : Int) = 10) <|
      bindv (Lib.itoa z16_14.n : (List UInt8)) fun z34_48 =>
      chk (s18.length + z34_48.length ≤ 9223372036854775807) <|
      bindv (s18 ++ z34_48 : List UInt8) fun z35_50 =>
      bindv (decide (0 < (z16_14.v.length : Int)) : Bool) fun z39_51 =>
      if z39_51 = true then (
       chk (z35_50.length + ([42] : List UInt8).length ≤ 9223372036854775807) <|
       bindv (z35_50 ++ ([42] : List UInt8) : List UInt8) fun z41_54 =>
       J20 z41_54
      ) else (
       J20 z35_50
      )
     ) else (
      J20 s18
     )
     ) : ((List UInt8)) → Option ((List UInt8))) fun J18 =>
    bindv (decide (0 < s7.2) : Bool) fun z19_55 =>
    if z19_55 = true then (
     chk (s7.1.length + ([43] : List UInt8).length ≤ 9223372036854775807) <|
     bindv (s7.1 ++ ([43] : List UInt8) : List UInt8) fun z21_58 =>
     J18 z21_58
    ) else (
     J18 s7.1
    )
   ) else (
    J5 s7.1
   )
   ) fun B7 =>
  loopF B7 KK ([], 0)
 )

def poly_Holds (x0 : List (T)) (x1 : C → Option (Bool)) : Option (Bool) :=
 bindv ((fun s3 =>
  some false
  ) : (Unit) → Option (Bool)) fun J3 =>
 bindv (fun (n5 : (Int) → Option (Bool)) (s5 : Int) =>
  bindv (decide (s5 < (x0.length : Int)) : Bool) fun z12_7 =>
  if z12_7 = true then (
   chk ((0 : Int) ≤ s5 ∧ s5 < (x0.length : Int)) <|
   bindv (gel x0 s5 : T) fun z13_12 =>
   bindv ((fun s16 =>
    some true
    ) : (Unit) → Option (Bool)) fun J16 =>
   bindv (fun (n18 : (Int) → Option (Bool)) (s18 : Int) =>
    bindv (decide (s18 < (z13_12.v.length : Int)) : Bool) fun z19_20 =>
    if z19_20 = true then (
     chk ((0 : Int) ≤ s18 ∧ s18 < (z13_12.v.length : Int)) <|
     bindv (gel z13_12.v s18 : C) fun z20_25 =>
     obind (x1 z20_25) fun y24_27 =>
     bindv (!y24_27 : Bool) fun z25_28 =>
     if z25_28 = true then (
      bindv (IntKind.wrap .i64 (s5 + 1) : Int) fun z27_30 =>
      n5 z27_30
     ) else (
      bindv (IntKind.wrap .i64 (s18 + 1) : Int) fun z26_31 =>
      n18 z26_31
     )
    ) else (
     J16 ()
    )
    ) fun B18 =>
   loopF B18 KK 0
  ) else (
   J3 ()
  )
  ) fun B5 =>
 loopF B5 KK 0

def poly_Num (x0 : List (T)) (x1 : C → Option (Int)) : Option (Int × Bool) :=
 bindv ((fun s2 =>
  some (s2, true)
  ) : (Int) → Option (Int × Bool)) fun J2 =>
 bindv (fun (n4 : (Int × Int) → Option (Int × Bool)) (s4 : Int × Int) =>
  bindv (decide (s4.2 < (x0.length : Int)) : Bool) fun z18_6 =>
  if z18_6 = true then (
   chk ((0 : Int) ≤ s4.2 ∧ s4.2 < (x0.length : Int)) <|
   bindv (gel x0 s4.2 : T) fun z19_11 =>
   obind (num_Of z19_11.n) fun y24_14 =>
   bindv ((fun s16 =>
    bindv ((fun s18 =>
     bindv (!s18.2 : Bool) fun z59_19 =>
     if z59_19 = true then (
      some (0, false)
     ) else (
      bindv (IntKind.wrap .i64 (s4.2 + 1) : Int) fun z60_21 =>
      n4 (s18.1, z60_21)
     )
     ) : (Int × Bool) → Option (Int × Bool)) fun J18 =>
    if s16.2 = true then (
     obind (num_Add s4.1 s16.1) fun y55_23 =>
     J18 (y55_23.1, y55_23.2)
    ) else (
     J18 (s4.1, s16.2)
    )
    ) : (Int × Bool) → Option (Int × Bool)) fun J16 =>
   bindv (fun (n25 : (Int × Bool × Int) → Option (Int × Bool)) (s25 : Int × Bool × Int) =>
    bindv (decide (s25.2.2 < (z19_11.v.length : Int)) : Bool) fun z31_27 =>
    if z31_27 = true then (
     chk ((0 : Int) ≤ s25.2.2 ∧ s25.2.2 < (z19_11.v.length : Int)) <|
     bindv (gel z19_11.v s25.2.2 : C) fun z32_32 =>
     if s25.2.1 = true then (
      obind (x1 z32_32) fun y38_35 =>
      obind (num_Of y38_35) fun y39_36 =>
      obind (num_Mul s25.1 y39_36.1) fun y45_37 =>
      bindv (!y39_36.2 : Bool) fun z49_38 =>
      if z49_38 = true then (
       bindv (IntKind.wrap .i64 (s25.2.2 + 1) : Int) fun z50_40 =>
       n25 (y45_37.1, false, z50_40)
      ) else (
       bindv (IntKind.wrap .i64 (s25.2.2 + 1) : Int) fun z50_41 =>
       n25 (y45_37.1, y45_37.2, z50_41)
      )
     ) else (
      bindv (IntKind.wrap .i64 (s25.2.2 + 1) : Int) fun z50_42 =>
      n25 (s25.1, s25.2.1, z50_42)
     )
    ) else (
     J16 (s25.1, s25.2.1)
    )
    ) fun B25 =>
   loopF B25 KK (y24_14.1, y24_14.2, 0)
  ) else (
   J2 s4.1
  )
  ) fun B4 =>
 loopF B4 KK (0, 0)

def reckonerlaw15_fit  : Option (Bool) :=
 obind (poly_Var (⟨0, 0, 0⟩ : C)) fun y5_1 =>
 obind (poly_Var (⟨0, 0, 0⟩ : C)) fun y7_4 =>
 obind (poly_Add [y5_1, y7_4]) fun y9_8 =>
 obind (if y9_8.2 = true then poly_Print y9_8.1 else some default) fun y15_10 =>
 bindv (decide (y15_10 = ([50, 42, 83, 49, 33, 65, 49] : List UInt8)) : Bool) fun z16_11 =>
 bindv (y9_8.2 && z16_11 : Bool) fun z17_12 =>
 some z17_12

def reckonerlaw15_Make (x0 : List (Int)) : Option ((List (T)) × Bool) :=
 obind (poly_Const (1 : Int)) fun y10_1 =>
 bindv ((fun s4 =>
  some (s4.1, s4.2)
  ) : ((List (T)) × Bool) → Option ((List (T)) × Bool)) fun J4 =>
 bindv (fun (n7 : ((List (T)) × Bool × Int) → Option ((List (T)) × Bool)) (s7 : (List (T)) × Bool × Int) =>
  bindv (decide (s7.2.2 < (x0.length : Int)) : Bool) fun z16_10 =>
  if z16_10 = true then (
   chk ((0 : Int) ≤ s7.2.2 ∧ s7.2.2 < (x0.length : Int)) <|
   bindv (gel x0 s7.2.2 : Int) fun z18_15 =>
   bindv (bits .and .u8 z18_15 3 : Int) fun z21_16 =>
   bindv (IntKind.wrap .i64 z21_16 : Int) fun z22_17 =>
   obind (poly_Var (⟨0, z22_17, 0⟩ : C)) fun y24_18 =>
   bindv ((fun s22 =>
    bindv (!s7.2.1 : Bool) fun z36_25 =>
    bindv (decide (12 < s7.2.2) : Bool) fun z39_26 =>
    bindv (z36_25 || z39_26 : Bool) fun z40_27 =>
    if z40_27 = true then (
     J4 (s7.1, s7.2.1)
    ) else (
     bindv (bits .and .u8 z18_15 8 : Int) fun z42_29 =>
     bindv (decide (z42_29 = 8) : Bool) fun z43_30 =>
     if z43_30 = true then (
      obind (poly_Mul s7.1 s22) fun y47_32 =>
      bindv (IntKind.wrap .i64 (s7.2.2 + 1) : Int) fun z57_34 =>
      n7 (y47_32.1, y47_32.2, z57_34)
     ) else (
      obind (poly_Add [s7.1, s22]) fun y54_36 =>
      bindv (IntKind.wrap .i64 (s7.2.2 + 1) : Int) fun z57_38 =>
      n7 (y54_36.1, y54_36.2, z57_38)
     )
    )
    ) : ((List (T))) → Option ((List (T)) × Bool)) fun J22 =>
   bindv (bits .and .u8 z18_15 4 : Int) fun z26_39 =>
   bindv (decide (z26_39 = 4) : Bool) fun z27_40 =>
   if z27_40 = true then (
    chk ((0 : Int) ≤ 5) <|
    bindv (shrI .u8 z18_15 5 : Int) fun z30_43 =>
    bindv (IntKind.wrap .i64 z30_43 : Int) fun z31_44 =>
    obind (poly_Const z31_44) fun y32_45 =>
    J22 y32_45.1
   ) else (
    J22 y24_18
   )
  ) else (
   J4 (s7.1, s7.2.1)
  )
  ) fun B7 =>
 loopF B7 KK (y10_1.1, y10_1.2, 0)

def reckonerlaw15_same (x0 : List (T)) (x1 : List (T)) : Option (Bool) :=
 obind (poly_Print x0) fun y6_1 =>
 obind (poly_Print x1) fun y8_2 =>
 bindv (decide (y6_1 = y8_2) : Bool) fun z9_3 =>
 bindv (decide ((x0.length : Int) = (x1.length : Int)) : Bool) fun z15_4 =>
 bindv (z9_3 && z15_4 : Bool) fun z16_5 =>
 some z16_5
end Go.Sp
