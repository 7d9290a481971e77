/- What functions of the program compute, as partial functions: printed off the program's form (no proof here). -/
import Derived.Test.YtlpfcclecmalhaaDoorSpD
set_option linter.unusedSimpArgs false
set_option linter.unusedVariables false
set_option linter.unusedSectionVars false
namespace Go.Sp
open Go.Stp Go.ValP
def reckonerlaw15_PolyBlanks_1 (x0 : C) (x1 : A4) : Option (Int) :=
 bindv (bits .and .i64 x0.c 3 : Int) fun z6_2 =>
 chk ((0 : Int) ≤ z6_2 ∧ z6_2 < (4 : Int)) <|
 bindv (gel [x1.a, x1.b, x1.c, x1.d] z6_2 : Int) fun z8_4 =>
 bindv (bits .and .i64 z8_4 15 : Int) fun z9_5 =>
 some z9_5

def reckonerlaw15_PolyBlanks_2 (x0 : C) (x1 : C) (x2 : C → Option (Int)) : Option (Int) :=
 bindv ((decide (x0.s = x1.s) && (decide (x0.c = x1.c) && decide (x0.r = x1.r))) : Bool) fun z7_3 =>
 if z7_3 = true then (
  some 0
 ) else (
  obind (x2 x0) fun y10_5 =>
  some y10_5
 )

def reckonerlaw15_PolyBlanks (x0 : List (Int)) (x1 : A4) (x2 : Int) : Option (Bool) :=
 obind (reckonerlaw15_fit) fun y22_3 =>
 bindv (!y22_3 : Bool) fun z23_4 =>
 if z23_4 = true then (
  some false
 ) else (
  obind (reckonerlaw15_Make x0) fun y26_6 =>
  bindv (!y26_6.2 : Bool) fun z30_9 =>
  if z30_9 = true then (
   some true
  ) else (
   bindv (bits .and .i64 x2 3 : Int) fun z32_11 =>
   bindv ((fun s18 =>
    obind (poly_Num y26_6.1 (fun c21 => reckonerlaw15_PolyBlanks_2 c21 (⟨0, z32_11, 0⟩ : C) (fun c22 => reckonerlaw15_PolyBlanks_1 c22 x1))) fun y66_23 =>
    obind (poly_Num s18 (fun c24 => reckonerlaw15_PolyBlanks_1 c24 x1)) fun y72_25 =>
    bindv (y66_23.2 && y72_25.2 : Bool) fun z78_26 =>
    bindv (decide (y66_23.1 = y72_25.1) : Bool) fun z82_27 =>
    bindv (z78_26 && z82_27 : Bool) fun z83_28 =>
    some z83_28
    ) : ((List (T))) → Option (Bool)) fun J18 =>
   bindv (fun (n30 : (Int × (List (T))) → Option (Bool)) (s30 : Int × (List (T))) =>
    bindv (decide (s30.1 < (y26_6.1.length : Int)) : Bool) fun z39_33 =>
    if z39_33 = true then (
     chk ((0 : Int) ≤ s30.1 ∧ s30.1 < (y26_6.1.length : Int)) <|
     bindv (gel y26_6.1 s30.1 : T) fun z40_38 =>
     bindv ((fun s42 =>
      bindv (!s42 : Bool) fun z57_43 =>
      if z57_43 = true then (
       chk (s30.2.length + [z40_38].length ≤ 9223372036854775807 ∧ (s30.2.length + [z40_38].length) * 32 ≤ 140737488355328) <|
       bindv (s30.2 ++ [z40_38] : List (T)) fun z61_48 =>
       bindv (IntKind.wrap .i64 (s30.1 + 1) : Int) fun z62_49 =>
       n30 (z62_49, z61_48)
      ) else (
       bindv (IntKind.wrap .i64 (s30.1 + 1) : Int) fun z62_50 =>
       n30 (z62_50, s30.2)
      )
      ) : (Bool) → Option (Bool)) fun J42 =>
     bindv (fun (n52 : (Bool × Int) → Option (Bool)) (s52 : Bool × Int) =>
      bindv (decide (s52.2 < (z40_38.v.length : Int)) : Bool) fun z46_54 =>
      if z46_54 = true then (
       chk ((0 : Int) ≤ s52.2 ∧ s52.2 < (z40_38.v.length : Int)) <|
       bindv (gel z40_38.v s52.2 : C) fun z47_59 =>
       bindv ((decide (z47_59.s = 0) && (decide (z47_59.c = z32_11) && decide (z47_59.r = 0))) : Bool) fun z53_61 =>
       bindv (s52.1 || z53_61 : Bool) fun z54_62 =>
       bindv (IntKind.wrap .i64 (s52.2 + 1) : Int) fun z55_63 =>
       n52 (z54_62, z55_63)
      ) else (
       J42 s52.1
      )
      ) fun B52 =>
     loopF B52 KK (false, 0)
    ) else (
     J18 s30.2
    )
    ) fun B30 =>
   loopF B30 KK (0, ([] : List (T)))
  )
 )
end Go.Sp
