/- What functions of the program compute, as partial functions: printed off the program's form (no proof here). -/
import Derived.Test.YtlpfcclecmalhaaDoorSpD
set_option linter.unusedSimpArgs false
set_option linter.unusedVariables false
set_option linter.unusedSectionVars false
namespace Go.Sp
open Go.Stp Go.ValP
def reckonerlaw15_PolyLaws (x0 : List (Int)) (x1 : List (Int)) (x2 : List (Int)) : Option (Bool) :=
 obind (reckonerlaw15_fit) fun y29_2 =>
 bindv (!y29_2 : Bool) fun z30_3 =>
 if z30_3 = true then (
  some false
 ) else (
  obind (reckonerlaw15_Make x0) fun y33_5 =>
  obind (reckonerlaw15_Make x1) fun y38_7 =>
  obind (reckonerlaw15_Make x2) fun y43_9 =>
  bindv (!y33_5.2 : Bool) fun z47_12 =>
  bindv (!y38_7.2 : Bool) fun z50_13 =>
  bindv (z47_12 || z50_13 : Bool) fun z51_14 =>
  bindv (!y43_9.2 : Bool) fun z54_15 =>
  bindv (z51_14 || z54_15 : Bool) fun z55_16 =>
  if z55_16 = true then (
   some true
  ) else (
   obind (poly_Add [y33_5.1, y38_7.1, y43_9.1]) fun y61_19 =>
   obind (poly_Add [y43_9.1, y38_7.1, y33_5.1]) fun y69_22 =>
   obind (poly_Mul y33_5.1 y38_7.1) fun y75_24 =>
   obind (poly_Mul y38_7.1 y33_5.1) fun y81_26 =>
   bindv (!(y61_19.2 == y69_22.2) : Bool) fun z86_29 =>
   bindv (!(y75_24.2 == y81_26.2) : Bool) fun z90_30 =>
   bindv (z86_29 || z90_30 : Bool) fun z91_31 =>
   obind (if (!z91_31 && y61_19.2) = true then reckonerlaw15_same y61_19.1 y69_22.1 else some default) fun y97_32 =>
   bindv (!y97_32 : Bool) fun z98_33 =>
   bindv (y61_19.2 && z98_33 : Bool) fun z99_34 =>
   bindv (z91_31 || z99_34 : Bool) fun z100_35 =>
   obind (if (!z100_35 && y75_24.2) = true then reckonerlaw15_same y75_24.1 y81_26.1 else some default) fun y106_36 =>
   bindv (!y106_36 : Bool) fun z107_37 =>
   bindv (y75_24.2 && z107_37 : Bool) fun z108_38 =>
   bindv (z100_35 || z108_38 : Bool) fun z109_39 =>
   if z109_39 = true then (
    some false
   ) else (
    obind (poly_Add [y38_7.1, y43_9.1]) fun y114_42 =>
    obind (poly_Mul y33_5.1 y114_42.1) fun y120_44 =>
    obind (poly_Mul y33_5.1 y43_9.1) fun y126_46 =>
    bindv (!y75_24.2 : Bool) fun z130_49 =>
    bindv (!y114_42.2 : Bool) fun z133_50 =>
    bindv (z130_49 || z133_50 : Bool) fun z134_51 =>
    bindv (!y120_44.2 : Bool) fun z137_52 =>
    bindv (z134_51 || z137_52 : Bool) fun z138_53 =>
    bindv (!y126_46.2 : Bool) fun z141_54 =>
    bindv (z138_53 || z141_54 : Bool) fun z142_55 =>
    if z142_55 = true then (
     some true
    ) else (
     obind (poly_Add [y75_24.1, y126_46.1]) fun y147_58 =>
     bindv (!y147_58.2 : Bool) fun z151_60 =>
     obind (if (!z151_60) = true then reckonerlaw15_same y120_44.1 y147_58.1 else some default) fun y155_61 =>
     bindv (z151_60 || y155_61 : Bool) fun z156_62 =>
     some z156_62
    )
   )
  )
 )
end Go.Sp
