/- What functions of the program compute, as partial functions: printed off the program's form (no proof here). -/
import Derived.Test.YtnmkeanoidadcaaGreatDoorSpD
set_option linter.unusedSimpArgs false
set_option linter.unusedVariables false
set_option linter.unusedSectionVars false
namespace Go.Sp
open Go.Stp Go.ValP
def reckonerlaw12_FuncsTexts (x0 : V) (x1 : V) (x2 : V) : Option (Bool) :=
 obind (reckonerlaw12_fit) fun y14_5 =>
 bindv (!y14_5 : Bool) fun z15_6 =>
 if z15_6 = true then (
  some false
 ) else (
  obind (reckonerlaw12_good x0) fun y17_9 =>
  bindv (!y17_9 : Bool) fun z18_10 =>
  obind (if (!z18_10) = true then reckonerlaw12_good x1 else some default) fun y21_11 =>
  bindv (!y21_11 : Bool) fun z22_12 =>
  bindv (z18_10 || z22_12 : Bool) fun z23_13 =>
  obind (if (!z23_13) = true then reckonerlaw12_good x2 else some default) fun y26_14 =>
  bindv (!y26_14 : Bool) fun z27_15 =>
  bindv (z23_13 || z27_15 : Bool) fun z28_16 =>
  if z28_16 = true then (
   some true
  ) else (
   obind (value_Show x0) fun y30_18 =>
   obind (value_Show x1) fun y32_19 =>
   obind (value_Show x2) fun y34_20 =>
   bindv ((fun s22 =>
    obind (value_ToNum x1) fun y53_23 =>
    bindv ((fun s27 =>
     obind (tree_Number ([67, 79, 78, 67, 65, 84] : List UInt8)) fun y63_28 =>
     obind (funcs_Of x0) fun y65_29 =>
     obind (funcs_Of x1) fun y67_31 =>
     obind (funcs_Of x2) fun y69_33 =>
     obind (funcs_Apply y63_28 [y65_29, y67_31, y69_33]) fun y71_35 =>
     obind (texts_More ([67, 79, 78, 67, 65, 84] : List UInt8) [y30_18, y32_19, y34_20]) fun y76_36 =>
     bindv ((decide (y71_35.k = y76_36.k) && (decide (y71_35.n = y76_36.n) && decide (y71_35.s = y76_36.s))) : Bool) fun z77_37 =>
     obind (if z77_37 = true then tree_Number ([70, 73, 78, 68] : List UInt8) else some default) fun y79_38 =>
     obind (if z77_37 = true then funcs_Of x0 else some default) fun y81_39 =>
     obind (if z77_37 = true then funcs_Of x1 else some default) fun y83_41 =>
     obind (if z77_37 = true then funcs_Apply y79_38 [y81_39, y83_41] else some default) fun y85_43 =>
     obind (if z77_37 = true then texts_More ([70, 73, 78, 68] : List UInt8) [y30_18, y32_19] else some default) fun y89_44 =>
     bindv ((decide (y85_43.k = y89_44.k) && (decide (y85_43.n = y89_44.n) && decide (y85_43.s = y89_44.s))) : Bool) fun z90_45 =>
     bindv (z77_37 && z90_45 : Bool) fun z91_46 =>
     obind (if z91_46 = true then tree_Number ([83, 85, 66, 83, 84, 73, 84, 85, 84, 69] : List UInt8) else some default) fun y93_47 =>
     obind (if z91_46 = true then funcs_Of x0 else some default) fun y95_48 =>
     obind (if z91_46 = true then funcs_Of x1 else some default) fun y97_50 =>
     obind (if z91_46 = true then funcs_Of x2 else some default) fun y99_52 =>
     obind (if z91_46 = true then funcs_Apply y93_47 [y95_48, y97_50, y99_52] else some default) fun y101_54 =>
     obind (if z91_46 = true then texts_More ([83, 85, 66, 83, 84, 73, 84, 85, 84, 69] : List UInt8) [y30_18, y32_19, y34_20] else some default) fun y106_55 =>
     bindv ((decide (y101_54.k = y106_55.k) && (decide (y101_54.n = y106_55.n) && decide (y101_54.s = y106_55.s))) : Bool) fun z107_56 =>
     bindv (z91_46 && z107_56 : Bool) fun z108_57 =>
     obind (if z108_57 = true then tree_Number ([76, 69, 70, 84] : List UInt8) else some default) fun y110_58 =>
     obind (if z108_57 = true then funcs_Of x0 else some default) fun y112_59 =>
     obind (if z108_57 = true then funcs_Of x1 else some default) fun y114_61 =>
     obind (if z108_57 = true then funcs_Apply y110_58 [y112_59, y114_61] else some default) fun y116_63 =>
     bindv ((decide (y116_63.k = s27.1) && (decide (y116_63.n = s27.2.1) && decide (y116_63.s = s27.2.2))) : Bool) fun z118_64 =>
     bindv (z108_57 && z118_64 : Bool) fun z119_65 =>
     obind (if z119_65 = true then tree_Number ([67, 79, 78, 67, 65, 84] : List UInt8) else some default) fun y121_66 =>
     obind (if z119_65 = true then funcs_Of x0 else some default) fun y123_67 =>
     obind (if z119_65 = true then funcs_Apply y121_66 [y123_67] else some default) fun y125_69 =>
     obind (if z119_65 = true then texts_More ([67, 79, 78, 67, 65, 84] : List UInt8) [y30_18] else some default) fun y128_70 =>
     bindv ((decide (y125_69.k = y128_70.k) && (decide (y125_69.n = y128_70.n) && decide (y125_69.s = y128_70.s))) : Bool) fun z129_71 =>
     bindv (z119_65 && z129_71 : Bool) fun z130_72 =>
     some z130_72
     ) : (Int × Int × (List UInt8)) → Option (Bool)) fun J27 =>
    bindv (!decide (y53_23.k = 4) : Bool) fun z57_73 =>
    if z57_73 = true then (
     obind (texts_Part ([76, 69, 70, 84] : List UInt8) y30_18 [y53_23.n]) fun y62_76 =>
     J27 (y62_76.k, y62_76.n, y62_76.s)
    ) else (
     J27 (y53_23.k, y53_23.n, y53_23.s)
    )
    ) : (Unit) → Option (Bool)) fun J22 =>
   bindv (fun (n79 : (Int) → Option (Bool)) (s79 : Int) =>
    bindv (decide (s79 < ((([([76, 69, 78] : List UInt8), ([85, 80, 80, 69, 82] : List UInt8), ([76, 79, 87, 69, 82] : List UInt8), ([84, 82, 73, 77] : List UInt8), ([86, 65, 76, 85, 69] : List UInt8)]).length : Int))) : Bool) fun z38_81 =>
    if z38_81 = true then (
     chk ((0 : Int) ≤ s79 ∧ s79 < (([([76, 69, 78] : List UInt8), ([85, 80, 80, 69, 82] : List UInt8), ([76, 79, 87, 69, 82] : List UInt8), ([84, 82, 73, 77] : List UInt8), ([86, 65, 76, 85, 69] : List UInt8)]).length : Int)) <|
     bindv (gel ([([76, 69, 78] : List UInt8), ([85, 80, 80, 69, 82] : List UInt8), ([76, 79, 87, 69, 82] : List UInt8), ([84, 82, 73, 77] : List UInt8), ([86, 65, 76, 85, 69] : List UInt8)]) s79 : List UInt8) fun z39_86 =>
     obind (tree_Number z39_86) fun y42_87 =>
     obind (funcs_Of x0) fun y44_88 =>
     obind (funcs_Apply y42_87 [y44_88]) fun y46_90 =>
     obind (texts_One z39_86 y30_18) fun y49_91 =>
     bindv (!((decide (y46_90.k = y49_91.k) && (decide (y46_90.n = y49_91.n) && decide (y46_90.s = y49_91.s)))) : Bool) fun z50_92 =>
     if z50_92 = true then (
      some false
     ) else (
      bindv (IntKind.wrap .i64 (s79 + 1) : Int) fun z51_94 =>
      n79 z51_94
     )
    ) else (
     J22 ()
    )
    ) fun B79 =>
   loopF B79 KK 0
  )
 )
end Go.Sp
