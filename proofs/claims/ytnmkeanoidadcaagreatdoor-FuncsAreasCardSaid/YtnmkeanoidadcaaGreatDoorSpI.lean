/- What functions of the program compute, as partial functions: printed off the program's form (no proof here). -/
import Derived.Test.YtnmkeanoidadcaaGreatDoorSpD
set_option linter.unusedSimpArgs false
set_option linter.unusedVariables false
set_option linter.unusedSectionVars false
namespace Go.Sp
open Go.Stp Go.ValP
def reckonerlaw12_FuncsAreas (x0 : V) (x1 : V) : Option (Bool) :=
 obind (reckonerlaw12_fit) fun y9_4 =>
 bindv (!y9_4 : Bool) fun z10_5 =>
 if z10_5 = true then (
  some false
 ) else (
  obind (reckonerlaw12_good x0) fun y12_8 =>
  bindv (!y12_8 : Bool) fun z13_9 =>
  obind (if (!z13_9) = true then reckonerlaw12_good x1 else some default) fun y16_10 =>
  bindv (!y16_10 : Bool) fun z17_11 =>
  bindv (z13_9 || z17_11 : Bool) fun z18_12 =>
  if z18_12 = true then (
   some true
  ) else (
   bindv ((fun s17 =>
    obind (tree_Number ([69, 88, 65, 67, 84] : List UInt8)) fun y41_18 =>
    obind (funcs_Of x1) fun y44_19 =>
    obind (funcs_Apply y41_18 ([(⟨true, 1, [x0]⟩ : Arg), y44_19])) fun y46_21 =>
    obind (tree_Number ([69, 88, 65, 67, 84] : List UInt8)) fun y47_22 =>
    obind (funcs_Of x0) fun y49_23 =>
    obind (funcs_Of x1) fun y51_25 =>
    obind (funcs_Apply y47_22 [y49_23, y51_25]) fun y53_27 =>
    bindv ((decide (y46_21.k = y53_27.k) && (decide (y46_21.n = y53_27.n) && decide (y46_21.s = y53_27.s))) : Bool) fun z54_28 =>
    obind (if z54_28 = true then tree_Number ([77, 65, 84, 67, 72] : List UInt8) else some default) fun y56_29 =>
    obind (if z54_28 = true then funcs_Of x0 else some default) fun y58_30 =>
    obind (if z54_28 = true then funcs_Apply y56_29 ([y58_30, (⟨true, 1, [x0]⟩ : Arg)]) else some default) fun y61_32 =>
    obind (if z54_28 = true then value_Num (1000000 : Int) else some default) fun y62_33 =>
    bindv ((decide (y61_32.k = y62_33.k) && (decide (y61_32.n = y62_33.n) && decide (y61_32.s = y62_33.s))) : Bool) fun z63_34 =>
    bindv (z54_28 && z63_34 : Bool) fun z64_35 =>
    some z64_35
    ) : (Unit) → Option (Bool)) fun J17 =>
   bindv (fun (n38 : (Int) → Option (Bool)) (s38 : Int) =>
    bindv (decide (s38 < ((([([65, 66, 83] : List UInt8), ([76, 69, 78] : List UInt8), ([78, 79, 84] : List UInt8), ([73, 83, 84, 69, 88, 84] : List UInt8), ([83, 85, 77] : List UInt8), ([77, 65, 88] : List UInt8), ([67, 79, 85, 78, 84, 65] : List UInt8), ([82, 79, 87, 83] : List UInt8), ([67, 79, 76, 85, 77, 78, 83] : List UInt8), ([85, 80, 80, 69, 82] : List UInt8), ([73, 78, 84] : List UInt8), ([65, 86, 69, 82, 65, 71, 69] : List UInt8)]).length : Int))) : Bool) fun z25_40 =>
    if z25_40 = true then (
     chk ((0 : Int) ≤ s38 ∧ s38 < (([([65, 66, 83] : List UInt8), ([76, 69, 78] : List UInt8), ([78, 79, 84] : List UInt8), ([73, 83, 84, 69, 88, 84] : List UInt8), ([83, 85, 77] : List UInt8), ([77, 65, 88] : List UInt8), ([67, 79, 85, 78, 84, 65] : List UInt8), ([82, 79, 87, 83] : List UInt8), ([67, 79, 76, 85, 77, 78, 83] : List UInt8), ([85, 80, 80, 69, 82] : List UInt8), ([73, 78, 84] : List UInt8), ([65, 86, 69, 82, 65, 71, 69] : List UInt8)]).length : Int)) <|
     bindv (gel ([([65, 66, 83] : List UInt8), ([76, 69, 78] : List UInt8), ([78, 79, 84] : List UInt8), ([73, 83, 84, 69, 88, 84] : List UInt8), ([83, 85, 77] : List UInt8), ([77, 65, 88] : List UInt8), ([67, 79, 85, 78, 84, 65] : List UInt8), ([82, 79, 87, 83] : List UInt8), ([67, 79, 76, 85, 77, 78, 83] : List UInt8), ([85, 80, 80, 69, 82] : List UInt8), ([73, 78, 84] : List UInt8), ([65, 86, 69, 82, 65, 71, 69] : List UInt8)]) s38 : List UInt8) fun z26_45 =>
     obind (tree_Number z26_45) fun y29_46 =>
     obind (funcs_Apply y29_46 ([(⟨true, 1, [x0]⟩ : Arg)])) fun y33_47 =>
     obind (funcs_Of x0) fun y36_48 =>
     obind (funcs_Apply y29_46 [y36_48]) fun y38_50 =>
     bindv (!((decide (y33_47.k = y38_50.k) && (decide (y33_47.n = y38_50.n) && decide (y33_47.s = y38_50.s)))) : Bool) fun z39_51 =>
     if z39_51 = true then (
      some false
     ) else (
      bindv (IntKind.wrap .i64 (s38 + 1) : Int) fun z40_53 =>
      n38 z40_53
     )
    ) else (
     J17 ()
    )
    ) fun B38 =>
   loopF B38 KK 0
  )
 )
end Go.Sp
