/- What functions of the program compute, as partial functions: printed off the program's form (no proof here). -/
import Derived.Test.YtlpfcclecmalhaaDoorSpD
set_option linter.unusedSimpArgs false
set_option linter.unusedVariables false
set_option linter.unusedSectionVars false
namespace Go.Sp
open Go.Stp Go.ValP
def reckonerlaw15_PolyUnits_1 (x0 : C) : Option (Bool) :=
 some true

def reckonerlaw15_PolyUnits (x0 : List (Int)) : Option (Bool) :=
 obind (reckonerlaw15_fit) fun y17_2 =>
 bindv (!y17_2 : Bool) fun z18_3 =>
 if z18_3 = true then (
  some false
 ) else (
  obind (reckonerlaw15_Make x0) fun y21_5 =>
  bindv (!y21_5.2 : Bool) fun z25_8 =>
  if z25_8 = true then (
   some true
  ) else (
   obind (poly_Const (0 : Int)) fun y27_10 =>
   obind (poly_Const (1 : Int)) fun y31_12 =>
   obind (poly_Add [y21_5.1, y27_10.1]) fun y38_15 =>
   obind (poly_Mul y21_5.1 y31_12.1) fun y44_17 =>
   obind (poly_Mul y27_10.1 y21_5.1) fun y50_19 =>
   obind (poly_Add []) fun y54_21 =>
   bindv (y38_15.2 && y44_17.2 : Bool) fun z60_23 =>
   bindv (z60_23 && y50_19.2 : Bool) fun z63_24 =>
   bindv (z63_24 && y54_21.2 : Bool) fun z66_25 =>
   obind (if z66_25 = true then reckonerlaw15_same y38_15.1 y21_5.1 else some default) fun y70_26 =>
   bindv (z66_25 && y70_26 : Bool) fun z71_27 =>
   obind (if z71_27 = true then reckonerlaw15_same y44_17.1 y21_5.1 else some default) fun y75_28 =>
   bindv (z71_27 && y75_28 : Bool) fun z76_29 =>
   bindv (decide ((y50_19.1.length : Int) = 0) : Bool) fun z80_30 =>
   bindv (z76_29 && z80_30 : Bool) fun z81_31 =>
   bindv (decide ((y54_21.1.length : Int) = 0) : Bool) fun z85_32 =>
   bindv (z81_31 && z85_32 : Bool) fun z86_33 =>
   obind (if z86_33 = true then poly_Holds y27_10.1 (fun c34 => reckonerlaw15_PolyUnits_1 c34) else some default) fun y89_35 =>
   bindv (!y89_35 : Bool) fun z90_36 =>
   bindv (z86_33 && z90_36 : Bool) fun z91_37 =>
   some z91_37
  )
 )
end Go.Sp
