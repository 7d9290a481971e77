/- What functions of the program compute, as partial functions: printed off the program's form (no proof here). -/
import Derived.Test.YtlpfcclecmalhaaDoorSpOf
set_option linter.unusedSimpArgs false
set_option linter.unusedVariables false
set_option linter.unusedSectionVars false
namespace Go.Sp
open Go.Stp Go.ValP
def reckonerlaw15_PolyNames (x0 : Int) : Option (Bool) :=
 obind (reckonerlaw15_fit) fun y13_2 =>
 bindv (!y13_2 : Bool) fun z14_3 =>
 if z14_3 = true then (
  some false
 ) else (
  obind (value_Num (3000000 : Int)) fun y19_6 =>
  obind (tree_Value y19_6) fun y20_7 =>
  obind (tree_Binary (3 : Int) (⟨4, 0, (⟨0, 0, []⟩ : V), (⟨(⟨0, 0, 0⟩ : C), false, false⟩ : Rf), (⟨(⟨0, 0, 0⟩ : C), false, false⟩ : Rf), ([82, 65, 84, 69] : List UInt8), []⟩ : Nd) y20_7) fun y21_9 =>
  obind (poly_Of KK y21_9 zeroPl) fun y24_12 =>
  obind (tree_Number ([83, 85, 77] : List UInt8)) fun y28_14 =>
  obind (tree_Apply y28_14 ([(⟨4, 0, (⟨0, 0, []⟩ : V), (⟨(⟨0, 0, 0⟩ : C), false, false⟩ : Rf), (⟨(⟨0, 0, 0⟩ : C), false, false⟩ : Rf), ([76, 73, 83, 84] : List UInt8), []⟩ : Nd)])) fun y31_16 =>
  obind (poly_Of KK y31_16 zeroPl) fun y34_18 =>
  obind (tree_Cell (⟨(⟨0, 0, 0⟩ : C), false, false⟩ : Rf)) fun y38_20 =>
  bindv ((fun s24 =>
   bindv (y24_12.2 && y34_18.2 : Bool) fun z77_25 =>
   obind (if z77_25 = true then poly_Print y24_12.1 else some default) fun y80_26 =>
   bindv (decide (y80_26 = ([51, 42, 83, 49, 33, 65, 49] : List UInt8)) : Bool) fun z81_27 =>
   bindv (z77_25 && z81_27 : Bool) fun z82_28 =>
   bindv (decide ((y34_18.1.length : Int) = 4) : Bool) fun z86_29 =>
   bindv (z82_28 && z86_29 : Bool) fun z87_30 =>
   bindv (z87_30 && true : Bool) fun z90_31 =>
   some z90_31
   ) : (Unit) → Option (Bool)) fun J24 =>
  obind (tree_Unary (5 : Int) y38_20) fun y40_32 =>
  obind (tree_Unary (6 : Int) y38_20) fun y42_34 =>
  obind (tree_Binary (2 : Int) y38_20 y38_20) fun y45_36 =>
  obind (tree_Binary (4 : Int) y38_20 y38_20) fun y48_38 =>
  obind (tree_Number ([77, 65, 88] : List UInt8)) fun y49_40 =>
  obind (tree_Apply y49_40 [y38_20]) fun y52_41 =>
  obind (value_Num (500000 : Int)) fun y53_43 =>
  obind (tree_Value y53_43) fun y54_44 =>
  obind (value_Bool true) fun y55_46 =>
  obind (tree_Value y55_46) fun y56_47 =>
  bindv (fun (n51 : (Int) → Option (Bool)) (s51 : Int) =>
   bindv (decide (s51 < ((([y40_32, y42_34, y45_36, y48_38, y52_41, y54_44, y56_47, (⟨4, 0, (⟨0, 0, []⟩ : V), (⟨(⟨0, 0, 0⟩ : C), false, false⟩ : Rf), (⟨(⟨0, 0, 0⟩ : C), false, false⟩ : Rf), ([78, 79, 78, 69] : List UInt8), []⟩ : Nd), (⟨4, 0, (⟨0, 0, []⟩ : V), (⟨(⟨0, 0, 0⟩ : C), false, false⟩ : Rf), (⟨(⟨0, 0, 0⟩ : C), false, false⟩ : Rf), ([76, 73, 83, 84] : List UInt8), []⟩ : Nd)]).length : Int))) : Bool) fun z62_53 =>
   if z62_53 = true then (
    chk ((0 : Int) ≤ s51 ∧ s51 < (([y40_32, y42_34, y45_36, y48_38, y52_41, y54_44, y56_47, (⟨4, 0, (⟨0, 0, []⟩ : V), (⟨(⟨0, 0, 0⟩ : C), false, false⟩ : Rf), (⟨(⟨0, 0, 0⟩ : C), false, false⟩ : Rf), ([78, 79, 78, 69] : List UInt8), []⟩ : Nd), (⟨4, 0, (⟨0, 0, []⟩ : V), (⟨(⟨0, 0, 0⟩ : C), false, false⟩ : Rf), (⟨(⟨0, 0, 0⟩ : C), false, false⟩ : Rf), ([76, 73, 83, 84] : List UInt8), []⟩ : Nd)]).length : Int)) <|
    bindv (gel ([y40_32, y42_34, y45_36, y48_38, y52_41, y54_44, y56_47, (⟨4, 0, (⟨0, 0, []⟩ : V), (⟨(⟨0, 0, 0⟩ : C), false, false⟩ : Rf), (⟨(⟨0, 0, 0⟩ : C), false, false⟩ : Rf), ([78, 79, 78, 69] : List UInt8), []⟩ : Nd), (⟨4, 0, (⟨0, 0, []⟩ : V), (⟨(⟨0, 0, 0⟩ : C), false, false⟩ : Rf), (⟨(⟨0, 0, 0⟩ : C), false, false⟩ : Rf), ([76, 73, 83, 84] : List UInt8), []⟩ : Nd)]) s51 : Nd) fun z63_58 =>
    obind (poly_Of KK z63_58 zeroPl) fun y69_61 =>
    if y69_61.2 = true then (
     some false
    ) else (
     bindv (IntKind.wrap .i64 (s51 + 1) : Int) fun z73_64 =>
     n51 z73_64
    )
   ) else (
    J24 ()
   )
   ) fun B51 =>
  loopF B51 KK 0
 )
end Go.Sp
