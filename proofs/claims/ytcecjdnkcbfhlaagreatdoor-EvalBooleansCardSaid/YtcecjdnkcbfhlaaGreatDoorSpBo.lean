/- What functions of the program compute, as partial functions: printed off the program's form (no proof here). -/
import Derived.Test.YtcecjdnkcbfhlaaGreatDoorSpEv
set_option linter.unusedSimpArgs false
set_option linter.unusedVariables false
set_option linter.unusedSectionVars false
namespace Go.Sp
open Go.Stp Go.ValP
def reckonerlaw13_fit  : Option (Bool) :=
 obind (value_Num (5 : Int)) fun y7_2 =>
 bindv (zeroPl.set (Int.toNat (64 * 0 + 0)) y7_2 : List V) fun zp0_3 =>
 obind (value_Bool true) fun y15_6 =>
 obind (tree_Value y15_6) fun y16_7 =>
 obind (tree_Cell (⟨(⟨0, 0, 0⟩ : C), false, false⟩ : Rf)) fun y18_9 =>
 obind (tree_Cell (⟨(⟨0, 1, 0⟩ : C), false, false⟩ : Rf)) fun y20_11 =>
 obind (tree_Apply (1 : Int) [y16_7, y18_9, y20_11]) fun y22_13 =>
 obind (eval_Eval y22_13 (⟨0, 0, 0⟩ : C) zp0_3) fun y26_15 =>
 obind (value_Num (5 : Int)) fun y29_18 =>
 bindv ((decide (y26_15.v.k = y29_18.k) && (decide (y26_15.v.n = y29_18.n) && decide (y26_15.v.s = y29_18.s))) : Bool) fun z30_19 =>
 bindv (decide ((y26_15.l.length : Int) = 1) : Bool) fun z35_20 =>
 bindv (z30_19 && z35_20 : Bool) fun z36_21 =>
 chk (z36_21 = true → (0 : Int) ≤ 0 ∧ 0 < (y26_15.l.length : Int)) <|
 bindv (gel y26_15.l 0 : C) fun z40_23 =>
 bindv ((decide (z40_23.s = 0) && (decide (z40_23.c = 0) && decide (z40_23.r = 0))) : Bool) fun z43_24 =>
 bindv (z36_21 && z43_24 : Bool) fun z44_25 =>
 some z44_25

def reckonerlaw13_EvalBooleans (x0 : List (Bool)) (x1 : Int) : Option (Bool) :=
 obind (reckonerlaw13_fit) fun y17_2 =>
 bindv (!y17_2 : Bool) fun z18_3 =>
 if z18_3 = true then (
  some false
 ) else (
  bindv (decide ((x0.length : Int) = 0) : Bool) fun z21_6 =>
  bindv (decide (9 < (x0.length : Int)) : Bool) fun z25_7 =>
  bindv (z21_6 || z25_7 : Bool) fun z26_8 =>
  if z26_8 = true then (
   some true
  ) else (
   obind (reckonerlaw13_Place []) fun y27_10 =>
   bindv ((fun s13 =>
    bindv (decide (8 < (x0.length : Int)) : Bool) fun z58_18 =>
    if z58_18 = true then (
     some true
    ) else (
     bindv ((fun s21 =>
      some true
      ) : (Unit) → Option (Bool)) fun J21 =>
     bindv (fun (n24 : (Int) → Option (Bool)) (s24 : Int) =>
      bindv (decide (s24 < ([3, 4].length : Int)) : Bool) fun z62_26 =>
      if z62_26 = true then (
       chk ((0 : Int) ≤ s24 ∧ s24 < ([3, 4].length : Int)) <|
       bindv (gel [3, 4] s24 : Int) fun z63_31 =>
       obind (tree_Apply z63_31 s13.1) fun y67_32 =>
       obind (eval_Eval y67_32 (⟨2, 0, 0⟩ : C) s13.2) fun y71_34 =>
       bindv (decide (z63_31 = 3) : Bool) fun z73_37 =>
       bindv ((fun s39 =>
        obind (value_Bool s39.1) fun y91_40 =>
        bindv (!((decide (y71_34.v.k = y91_40.k) && (decide (y71_34.v.n = y91_40.n) && decide (y71_34.v.s = y91_40.s)))) : Bool) fun z92_41 =>
        bindv (!decide ((y71_34.l.length : Int) = s39.2) : Bool) fun z98_42 =>
        bindv (z92_41 || z98_42 : Bool) fun z99_43 =>
        if z99_43 = true then (
         some false
        ) else (
         bindv (IntKind.wrap .i64 (s24 + 1) : Int) fun z100_45 =>
         n24 z100_45
        )
        ) : (Bool × Int) → Option (Bool)) fun J39 =>
       bindv (fun (n47 : (Bool × Int × Int) → Option (Bool)) (s47 : Bool × Int × Int) =>
        bindv (decide (s47.2.2 < (x0.length : Int)) : Bool) fun z77_49 =>
        if z77_49 = true then (
         chk ((0 : Int) ≤ s47.2.2 ∧ s47.2.2 < (x0.length : Int)) <|
         bindv (gel x0 s47.2.2 : Bool) fun z78_54 =>
         bindv (IntKind.wrap .i64 (s47.2.1 + 1) : Int) fun z81_55 =>
         bindv (decide (z63_31 = 4) : Bool) fun z84_56 =>
         bindv (z78_54 == z84_56 : Bool) fun z85_57 =>
         if z85_57 = true then (
          J39 (z78_54, z81_55)
         ) else (
          bindv (IntKind.wrap .i64 (s47.2.2 + 1) : Int) fun z87_59 =>
          n47 (s47.1, z81_55, z87_59)
         )
        ) else (
         J39 (s47.1, s47.2.1)
        )
        ) fun B47 =>
       loopF B47 KK (z73_37, 0, 0)
      ) else (
       J21 ()
      )
      ) fun B24 =>
     loopF B24 KK 0
    )
    ) : ((List (Nd)) × (List V)) → Option (Bool)) fun J13 =>
   bindv (fun (n61 : (Int × (List (Nd)) × (List V)) → Option (Bool)) (s61 : Int × (List (Nd)) × (List V)) =>
    bindv (decide (s61.1 < (x0.length : Int)) : Bool) fun z31_64 =>
    if z31_64 = true then (
     chk ((0 : Int) ≤ s61.1 ∧ s61.1 < (x0.length : Int)) <|
     bindv (gel x0 s61.1 : Bool) fun z33_69 =>
     bindv (IntKind.wrap .i64 (8 * s61.1) : Int) fun z37_70 =>
     bindv (Int.tmod z37_70 64 : Int) fun z38_71 =>
     obind (value_Bool z33_69) fun y40_72 =>
     chk ((0 : Int) ≤ z38_71 ∧ z38_71 < (64 : Int)) <|
     bindv (s61.2.2.set (Int.toNat (64 * 0 + z38_71)) y40_72 : List V) fun zp0_74 =>
     bindv (Int.tmod s61.1 8 : Int) fun z47_76 =>
     obind (tree_Cell (⟨(⟨0, 0, z47_76⟩ : C), false, false⟩ : Rf)) fun y52_77 =>
     chk (s61.2.1.length + [y52_77].length ≤ 9223372036854775807 ∧ (s61.2.1.length + [y52_77].length) * 152 ≤ 140737488355328) <|
     bindv (s61.2.1 ++ [y52_77] : List (Nd)) fun z54_82 =>
     bindv (IntKind.wrap .i64 (s61.1 + 1) : Int) fun z55_83 =>
     n61 (z55_83, z54_82, zp0_74)
    ) else (
     J13 (s61.2.1, s61.2.2)
    )
    ) fun B61 =>
   loopF B61 KK (0, ([] : List (Nd)), y27_10)
  )
 )
end Go.Sp
