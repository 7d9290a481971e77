/- What functions of the program compute, as partial functions: printed off the program's form (no proof here). -/
import Derived.Test.YtlpfcclecmalhaaDoorSpD
set_option linter.unusedSimpArgs false
set_option linter.unusedVariables false
set_option linter.unusedSectionVars false
namespace Go.Sp
open Go.Stp Go.ValP
def reckonerlaw15_PolyNumbers_1 (x0 : C) (x1 : A4) : Option (Int) :=
 bindv (bits .and .i64 x0.c 3 : Int) fun z6_2 =>
 chk ((0 : Int) ≤ z6_2 ∧ z6_2 < (4 : Int)) <|
 bindv (gel [x1.a, x1.b, x1.c, x1.d] z6_2 : Int) fun z8_4 =>
 bindv (bits .and .i64 z8_4 15 : Int) fun z9_5 =>
 some z9_5

def reckonerlaw15_PolyNumbers_2 (x0 : C) (x1 : A4) : Option (Bool) :=
 bindv (bits .and .i64 x0.c 3 : Int) fun z6_2 =>
 chk ((0 : Int) ≤ z6_2 ∧ z6_2 < (4 : Int)) <|
 bindv (gel [x1.a, x1.b, x1.c, x1.d] z6_2 : Int) fun z8_4 =>
 bindv (bits .and .i64 z8_4 15 : Int) fun z9_5 =>
 bindv (decide (0 < z9_5) : Bool) fun z10_6 =>
 some z10_6

def reckonerlaw15_PolyNumbers (x0 : List (Int)) (x1 : List (Int)) (x2 : A4) : Option (Bool) :=
 obind (reckonerlaw15_fit) fun y27_3 =>
 bindv (!y27_3 : Bool) fun z28_4 =>
 if z28_4 = true then (
  some false
 ) else (
  obind (reckonerlaw15_Make x0) fun y31_6 =>
  obind (reckonerlaw15_Make x1) fun y36_8 =>
  bindv (!y31_6.2 : Bool) fun z40_11 =>
  bindv (!y36_8.2 : Bool) fun z43_12 =>
  bindv (z40_11 || z43_12 : Bool) fun z44_13 =>
  if z44_13 = true then (
   some true
  ) else (
   obind (poly_Add [y31_6.1, y36_8.1]) fun y50_17 =>
   obind (poly_Mul y31_6.1 y36_8.1) fun y56_19 =>
   obind (poly_Num y31_6.1 (fun c21 => reckonerlaw15_PolyNumbers_1 c21 x2)) fun y62_22 =>
   obind (poly_Num y36_8.1 (fun c23 => reckonerlaw15_PolyNumbers_1 c23 x2)) fun y68_24 =>
   bindv (!y62_22.2 : Bool) fun z72_26 =>
   bindv (!y68_24.2 : Bool) fun z75_27 =>
   bindv (z72_26 || z75_27 : Bool) fun z76_28 =>
   if z76_28 = true then (
    some false
   ) else (
    bindv ((fun s31 =>
     bindv ((fun s33 =>
      obind (poly_Holds y31_6.1 (fun c34 => reckonerlaw15_PolyNumbers_2 c34 x2)) fun y118_35 =>
      bindv (decide (0 < y62_22.1) : Bool) fun z120_36 =>
      bindv (y118_35 == z120_36 : Bool) fun z121_37 =>
      some z121_37
      ) : (Unit) → Option (Bool)) fun J33 =>
     if y56_19.2 = true then (
      obind (num_Mul y62_22.1 y68_24.1) fun y97_39 =>
      obind (poly_Num y56_19.1 (fun c40 => reckonerlaw15_PolyNumbers_1 c40 x2)) fun y103_41 =>
      bindv (y103_41.2 && y97_39.2 : Bool) fun z109_42 =>
      bindv (!decide (y103_41.1 = y97_39.1) : Bool) fun z113_43 =>
      bindv (z109_42 && z113_43 : Bool) fun z114_44 =>
      if z114_44 = true then (
       some false
      ) else (
       J33 ()
      )
     ) else (
      J33 ()
     )
     ) : (Unit) → Option (Bool)) fun J31 =>
    if y50_17.2 = true then (
     obind (poly_Num y50_17.1 (fun c47 => reckonerlaw15_PolyNumbers_1 c47 x2)) fun y81_48 =>
     bindv (!y81_48.2 : Bool) fun z85_49 =>
     bindv (IntKind.wrap .i64 (y62_22.1 + y68_24.1) : Int) fun z90_50 =>
     bindv (!decide (y81_48.1 = z90_50) : Bool) fun z91_51 =>
     bindv (z85_49 || z91_51 : Bool) fun z92_52 =>
     if z92_52 = true then (
      some false
     ) else (
      J31 ()
     )
    ) else (
     J31 ()
    )
   )
  )
 )
end Go.Sp
