/- What functions of the program compute, as partial functions: printed off the program's form (no proof here). -/
import Derived.Test.YtnmkeanoidadcaaGreatDoorSpD
set_option linter.unusedSimpArgs false
set_option linter.unusedVariables false
set_option linter.unusedSectionVars false
namespace Go.Sp
open Go.Stp Go.ValP
def reckonerlaw12_FuncsNumbers (x0 : V) (x1 : V) : Option (Bool) :=
 obind (reckonerlaw12_fit) fun y13_4 =>
 bindv (!y13_4 : Bool) fun z14_5 =>
 if z14_5 = true then (
  some false
 ) else (
  obind (reckonerlaw12_good x0) fun y16_8 =>
  bindv (!y16_8 : Bool) fun z17_9 =>
  obind (if (!z17_9) = true then reckonerlaw12_good x1 else some default) fun y20_10 =>
  bindv (!y20_10 : Bool) fun z21_11 =>
  bindv (z17_9 || z21_11 : Bool) fun z22_12 =>
  if z22_12 = true then (
   some true
  ) else (
   obind (value_ToNum x0) fun y24_14 =>
   obind (value_ToNum x1) fun y26_15 =>
   bindv ((fun s19 =>
    bindv ((fun s21 =>
     some true
     ) : (Unit) → Option (Bool)) fun J21 =>
    bindv (fun (n24 : (Int) → Option (Bool)) (s24 : Int) =>
     bindv (decide (s24 < ((([([82, 79, 85, 78, 68] : List UInt8), ([77, 79, 68] : List UInt8), ([80, 79, 87, 69, 82] : List UInt8), ([81, 85, 79, 84, 73, 69, 78, 84] : List UInt8), ([71, 67, 68] : List UInt8), ([76, 67, 77] : List UInt8)]).length : Int))) : Bool) fun z60_26 =>
     if z60_26 = true then (
      chk ((0 : Int) ≤ s24 ∧ s24 < (([([82, 79, 85, 78, 68] : List UInt8), ([77, 79, 68] : List UInt8), ([80, 79, 87, 69, 82] : List UInt8), ([81, 85, 79, 84, 73, 69, 78, 84] : List UInt8), ([71, 67, 68] : List UInt8), ([76, 67, 77] : List UInt8)]).length : Int)) <|
      bindv (gel ([([82, 79, 85, 78, 68] : List UInt8), ([77, 79, 68] : List UInt8), ([80, 79, 87, 69, 82] : List UInt8), ([81, 85, 79, 84, 73, 69, 78, 84] : List UInt8), ([71, 67, 68] : List UInt8), ([76, 67, 77] : List UInt8)]) s24 : List UInt8) fun z61_31 =>
      bindv ((fun s34 =>
       obind (tree_Number z61_31) fun y78_35 =>
       obind (funcs_Of x0) fun y80_36 =>
       obind (funcs_Of x1) fun y82_38 =>
       obind (funcs_Apply y78_35 [y80_36, y82_38]) fun y84_40 =>
       bindv (!((decide (y84_40.k = s34.1) && (decide (y84_40.n = s34.2.1) && decide (y84_40.s = s34.2.2)))) : Bool) fun z86_41 =>
       if z86_41 = true then (
        some false
       ) else (
        bindv (IntKind.wrap .i64 (s24 + 1) : Int) fun z87_43 =>
        n24 z87_43
       )
       ) : (Int × Int × (List UInt8)) → Option (Bool)) fun J34 =>
      bindv (!decide (y24_14.k = 4) : Bool) fun z66_44 =>
      if z66_44 = true then (
       bindv (!decide (y26_15.k = 4) : Bool) fun z70_46 =>
       if z70_46 = true then (
        obind (maths_Two z61_31 y24_14.n y26_15.n) fun y76_48 =>
        J34 (y76_48.k, y76_48.n, y76_48.s)
       ) else (
        J34 (y26_15.k, y26_15.n, y26_15.s)
       )
      ) else (
       J34 (y24_14.k, y24_14.n, y24_14.s)
      )
     ) else (
      J21 ()
     )
     ) fun B24 =>
    loopF B24 KK 0
    ) : (Unit) → Option (Bool)) fun J19 =>
   bindv (fun (n51 : (Int) → Option (Bool)) (s51 : Int) =>
    bindv (decide (s51 < ((([([65, 66, 83] : List UInt8), ([83, 73, 71, 78] : List UInt8), ([73, 78, 84] : List UInt8), ([84, 82, 85, 78, 67] : List UInt8), ([69, 86, 69, 78] : List UInt8), ([79, 68, 68] : List UInt8), ([70, 65, 67, 84] : List UInt8)]).length : Int))) : Bool) fun z30_53 =>
    if z30_53 = true then (
     chk ((0 : Int) ≤ s51 ∧ s51 < (([([65, 66, 83] : List UInt8), ([83, 73, 71, 78] : List UInt8), ([73, 78, 84] : List UInt8), ([84, 82, 85, 78, 67] : List UInt8), ([69, 86, 69, 78] : List UInt8), ([79, 68, 68] : List UInt8), ([70, 65, 67, 84] : List UInt8)]).length : Int)) <|
     bindv (gel ([([65, 66, 83] : List UInt8), ([83, 73, 71, 78] : List UInt8), ([73, 78, 84] : List UInt8), ([84, 82, 85, 78, 67] : List UInt8), ([69, 86, 69, 78] : List UInt8), ([79, 68, 68] : List UInt8), ([70, 65, 67, 84] : List UInt8)]) s51 : List UInt8) fun z31_58 =>
     bindv ((fun s61 =>
      obind (tree_Number z31_58) fun y42_62 =>
      obind (funcs_Of x0) fun y44_63 =>
      obind (funcs_Apply y42_62 [y44_63]) fun y46_65 =>
      bindv (!((decide (y46_65.k = s61.1) && (decide (y46_65.n = s61.2.1) && decide (y46_65.s = s61.2.2)))) : Bool) fun z48_66 =>
      obind (if (!z48_66) = true then tree_Number z31_58 else some default) fun y51_67 =>
      obind (if (!z48_66) = true then funcs_Apply y51_67 [] else some default) fun y52_68 =>
      obind (if (!z48_66) = true then value_Fail (2 : Int) else some default) fun y53_69 =>
      bindv (!((decide (y52_68.k = y53_69.k) && (decide (y52_68.n = y53_69.n) && decide (y52_68.s = y53_69.s)))) : Bool) fun z54_70 =>
      bindv (z48_66 || z54_70 : Bool) fun z55_71 =>
      if z55_71 = true then (
       some false
      ) else (
       bindv (IntKind.wrap .i64 (s51 + 1) : Int) fun z56_73 =>
       n51 z56_73
      )
      ) : (Int × Int × (List UInt8)) → Option (Bool)) fun J61 =>
     bindv (!decide (y24_14.k = 4) : Bool) fun z36_74 =>
     if z36_74 = true then (
      obind (maths_One z31_58 y24_14.n) fun y40_76 =>
      J61 (y40_76.k, y40_76.n, y40_76.s)
     ) else (
      J61 (y24_14.k, y24_14.n, y24_14.s)
     )
    ) else (
     J19 ()
    )
    ) fun B51 =>
   loopF B51 KK 0
  )
 )
end Go.Sp
