/- What functions of the program compute, as partial functions: printed off the program's form (no proof here). -/
import Derived.Test.YtlpfcclecmalhaaDoorSpB
set_option linter.unusedSimpArgs false
set_option linter.unusedVariables false
set_option linter.unusedSectionVars false
namespace Go.Sp
open Go.Stp Go.ValP
def slices_stableCmpFunc_Term (x0 : List (T)) (x1 : Int) (x2 : T → T → Option (Int)) : Option (List (T)) :=
 bindv ((fun s2 =>
  obind (slices_insertionSortCmpFunc_Term s2.2 s2.1 x1 x2) fun y27_4 =>
  bindv (fun (n7 : (Int × (List (T))) → Option (List (T))) (s7 : Int × (List (T))) =>
   bindv (decide (s7.1 < x1) : Bool) fun z30_11 =>
   if z30_11 = true then (
    bindv (IntKind.wrap .i64 (2 * s7.1) : Int) fun z32_14 =>
    bindv ((fun s16 =>
     bindv ((fun s19 =>
      bindv (IntKind.wrap .i64 (s7.1 * 2) : Int) fun z62_21 =>
      n7 (z62_21, s19)
      ) : ((List (T))) → Option (List (T))) fun J19 =>
     bindv (IntKind.wrap .i64 (s16.1 + s7.1) : Int) fun z51_22 =>
     bindv (decide (z51_22 < x1) : Bool) fun z54_23 =>
     if z54_23 = true then (
      obind (slices_symMergeCmpFunc_Term (s16.2.length + 1) s16.2 s16.1 z51_22 x1 x2) fun y60_25 =>
      J19 y60_25
     ) else (
      J19 s16.2
     )
     ) : (Int × (List (T))) → Option (List (T))) fun J16 =>
    bindv (fun (n27 : (Int × Int × (List (T))) → Option (List (T))) (s27 : Int × Int × (List (T))) =>
     bindv (decide (s27.2.1 ≤ x1) : Bool) fun z35_31 =>
     if z35_31 = true then (
      bindv (IntKind.wrap .i64 (s27.1 + s7.1) : Int) fun z40_34 =>
      obind (slices_symMergeCmpFunc_Term (s27.2.2.length + 1) s27.2.2 s27.1 z40_34 s27.2.1 x2) fun y43_35 =>
      bindv (IntKind.wrap .i64 (2 * s7.1) : Int) fun z47_37 =>
      bindv (IntKind.wrap .i64 (s27.2.1 + z47_37) : Int) fun z48_38 =>
      n27 (s27.2.1, z48_38, y43_35)
     ) else (
      J16 (s27.1, s27.2.2)
     )
     ) fun B27 =>
    loopF B27 KK (0, z32_14, s7.2)
   ) else (
    some s7.2
   )
   ) fun B7 =>
  loopF B7 KK (20, y27_4)
  ) : (Int × (List (T))) → Option (List (T))) fun J2 =>
 bindv (fun (n39 : (Int × Int × (List (T))) → Option (List (T))) (s39 : Int × Int × (List (T))) =>
  bindv (decide (s39.2.1 ≤ x1) : Bool) fun z13_43 =>
  if z13_43 = true then (
   obind (slices_insertionSortCmpFunc_Term s39.2.2 s39.1 s39.2.1 x2) fun y18_46 =>
   bindv (IntKind.wrap .i64 (s39.2.1 + 20) : Int) fun z22_48 =>
   n39 (s39.2.1, z22_48, y18_46)
  ) else (
   J2 (s39.1, s39.2.2)
  )
  ) fun B39 =>
 loopF B39 KK (0, 20, x0)

def slices_SortStableFunc_Term (x0 : List (T)) (x1 : T → T → Option (Int)) : Option (List (T)) :=
 obind (slices_stableCmpFunc_Term x0 (x0.length : Int) x1) fun y8_1 =>
 some y8_1

def slices_insertionSortCmpFunc_Cell (x0 : List (C)) (x1 : Int) (x2 : Int) (x3 : C → C → Option (Int)) : Option (List (C)) :=
 bindv (IntKind.wrap .i64 (x1 + 1) : Int) fun z11_1 =>
 bindv (fun (n3 : (Int × (List (C))) → Option (List (C))) (s3 : Int × (List (C))) =>
  bindv (decide (s3.1 < x2) : Bool) fun z14_7 =>
  if z14_7 = true then (
   bindv ((fun s10 =>
    bindv (IntKind.wrap .i64 (s3.1 + 1) : Int) fun z16_12 =>
    n3 (z16_12, s10)
    ) : ((List (C))) → Option (List (C))) fun J10 =>
   bindv (fun (n14 : (Int × (List (C))) → Option (List (C))) (s14 : Int × (List (C))) =>
    bindv (decide (x1 < s14.1) : Bool) fun z20_18 =>
    chk (z20_18 = true → (0 : Int) ≤ s14.1 ∧ s14.1 < (s14.2.length : Int)) <|
    bindv (gel s14.2 s14.1 : C) fun z25_20 =>
    bindv (IntKind.wrap .i64 (s14.1 - 1) : Int) fun z29_22 =>
    chk (z20_18 = true → (0 : Int) ≤ z29_22 ∧ z29_22 < (s14.2.length : Int)) <|
    bindv (gel s14.2 z29_22 : C) fun z30_24 =>
    obind (if z20_18 = true then x3 z25_20 z30_24 else some default) fun y32_26 =>
    bindv (decide (y32_26 < 0) : Bool) fun z33_27 =>
    bindv (z20_18 && z33_27 : Bool) fun z34_28 =>
    if z34_28 = true then (
     bindv (IntKind.wrap .i64 (s14.1 - 1) : Int) fun z41_31 =>
     chk ((0 : Int) ≤ z41_31 ∧ z41_31 < (s14.2.length : Int)) <|
     chk ((0 : Int) ≤ s14.1 ∧ s14.1 < (s14.2.length : Int)) <|
     bindv ((s14.2.set (Int.toNat s14.1) (gel s14.2 z41_31)).set (Int.toNat z41_31) (gel s14.2 s14.1) : List (C)) fun zrow_35 =>
     bindv (IntKind.wrap .i64 (s14.1 - 1) : Int) fun z36_37 =>
     n14 (z36_37, zrow_35)
    ) else (
     J10 s14.2
    )
    ) fun B14 =>
   loopF B14 KK (s3.1, s3.2)
  ) else (
   some s3.2
  )
  ) fun B3 =>
 loopF B3 KK (z11_1, x0)

def slices_pdqsortCmpFunc_Cell (x0 : List (C)) (x1 : Int) (x2 : Int) (x3 : Int) (x4 : C → C → Option (Int)) : Option (List (C)) :=
 bindv (fun (n2 : (Int × Int × Int × Bool × Bool × (List (C))) → Option (List (C))) (s2 : Int × Int × Int × Bool × Bool × (List (C))) =>
  bindv (IntKind.wrap .i64 (s2.2.1 - s2.1) : Int) fun z23_6 =>
  bindv (decide (z23_6 ≤ 12) : Bool) fun z25_8 =>
  if z25_8 = true then (
   obind (slices_insertionSortCmpFunc_Cell s2.2.2.2.2.2 s2.1 s2.2.1 x4) fun y30_10 =>
   some y30_10
  ) else (
   bindv (decide (s2.2.2.1 = 0) : Bool) fun z32_13 =>
   if z32_13 = true then (
    none
   ) else (
    none
   )
  )
  ) fun B2 =>
 loopF B2 KK (x1, x2, x3, true, true, x0)

def slices_SortFunc_Cell (x0 : List (C)) (x1 : C → C → Option (Int)) : Option (List (C)) :=
 bindv (IntKind.wrap .u64 (x0.length : Int) : Int) fun z10_1 =>
 chk (0 ≤ z10_1 ∧ z10_1 ≤ 18446744073709551615) <|
 bindv ((Lib.bitLen (Int.toNat z10_1) : Int) : Int) fun z11_4 =>
 obind (slices_pdqsortCmpFunc_Cell x0 (0 : Int) (x0.length : Int) z11_4 x1) fun y13_5 =>
 some y13_5
end Go.Sp
