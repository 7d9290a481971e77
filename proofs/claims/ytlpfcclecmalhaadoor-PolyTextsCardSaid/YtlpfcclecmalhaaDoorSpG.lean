/- What functions of the program compute, as partial functions: printed off the program's form (no proof here). -/
import Derived.Test.YtlpfcclecmalhaaDoorSpD
set_option linter.unusedSimpArgs false
set_option linter.unusedVariables false
set_option linter.unusedSectionVars false
namespace Go.Sp
open Go.Stp Go.ValP
def reckonerlaw15_PolyTexts (x0 : List (Int)) (x1 : List (Int)) (x2 : C) : Option (Bool) :=
 obind (reckonerlaw15_fit) fun y15_3 =>
 bindv (!y15_3 : Bool) fun z16_4 =>
 if z16_4 = true then (
  some false
 ) else (
  obind (reckonerlaw15_Make x0) fun y19_6 =>
  obind (reckonerlaw15_Make x1) fun y24_8 =>
  bindv (!y19_6.2 : Bool) fun z28_11 =>
  bindv (!y24_8.2 : Bool) fun z31_12 =>
  bindv (z28_11 || z31_12 : Bool) fun z32_13 =>
  bindv (decide (x2.s < 0) : Bool) fun z36_14 =>
  bindv (z32_13 || z36_14 : Bool) fun z37_15 =>
  bindv (decide (2 < x2.s) : Bool) fun z41_16 =>
  bindv (z37_15 || z41_16 : Bool) fun z42_17 =>
  bindv (decide (x2.c < 0) : Bool) fun z46_18 =>
  bindv (z42_17 || z46_18 : Bool) fun z47_19 =>
  bindv (decide (25 < x2.c) : Bool) fun z51_20 =>
  bindv (z47_19 || z51_20 : Bool) fun z52_21 =>
  bindv (decide (x2.r < 0) : Bool) fun z56_22 =>
  bindv (z52_21 || z56_22 : Bool) fun z57_23 =>
  bindv (decide (98 < x2.r) : Bool) fun z61_24 =>
  bindv (z57_23 || z61_24 : Bool) fun z62_25 =>
  if z62_25 = true then (
   some true
  ) else (
   bindv (decide ((y19_6.1.length : Int) = (y24_8.1.length : Int)) : Bool) fun z67_27 =>
   bindv ((fun s29 =>
    obind (poly_Var x2) fun y137_30 =>
    obind (poly_Print y19_6.1) fun y139_33 =>
    obind (poly_Print y24_8.1) fun y141_34 =>
    bindv (decide (y139_33 = y141_34) : Bool) fun z142_35 =>
    bindv (z142_35 == s29 : Bool) fun z144_36 =>
    bindv (decide ((y137_30.length : Int) = 1) : Bool) fun z148_37 =>
    bindv (z144_36 && z148_37 : Bool) fun z149_38 =>
    chk (z149_38 = true → (0 : Int) ≤ 0 ∧ 0 < (y137_30.length : Int)) <|
    bindv (gel y137_30 0 : T) fun z152_40 =>
    bindv (decide (z152_40.n = 1) : Bool) fun z155_42 =>
    bindv (z149_38 && z155_42 : Bool) fun z156_43 =>
    chk (z156_43 = true → (0 : Int) ≤ 0 ∧ 0 < (y137_30.length : Int)) <|
    bindv (gel y137_30 0 : T) fun z159_45 =>
    bindv (decide ((z159_45.v.length : Int) = 1) : Bool) fun z163_47 =>
    bindv (z156_43 && z163_47 : Bool) fun z164_48 =>
    chk (z164_48 = true → (0 : Int) ≤ 0 ∧ 0 < (y137_30.length : Int)) <|
    bindv (gel y137_30 0 : T) fun z167_50 =>
    chk (z164_48 = true → (0 : Int) ≤ 0 ∧ 0 < (z167_50.v.length : Int)) <|
    bindv (gel z167_50.v 0 : C) fun z170_53 =>
    bindv ((decide (z170_53.s = x2.s) && (decide (z170_53.c = x2.c) && decide (z170_53.r = x2.r))) : Bool) fun z173_54 =>
    bindv (z164_48 && z173_54 : Bool) fun z174_55 =>
    some z174_55
    ) : (Bool) → Option (Bool)) fun J29 =>
   bindv (min (y19_6.1.length : Int) (y24_8.1.length : Int) : Int) fun z72_56 =>
   bindv (fun (n58 : (Bool × Int) → Option (Bool)) (s58 : Bool × Int) =>
    bindv (decide (s58.2 < z72_56) : Bool) fun z74_60 =>
    if z74_60 = true then (
     chk (s58.1 = true → (0 : Int) ≤ s58.2 ∧ s58.2 < (y19_6.1.length : Int)) <|
     bindv (gel y19_6.1 s58.2 : T) fun z80_65 =>
     chk (s58.1 = true → (0 : Int) ≤ s58.2 ∧ s58.2 < (y24_8.1.length : Int)) <|
     bindv (gel y24_8.1 s58.2 : T) fun z85_68 =>
     bindv (decide (z80_65.n = z85_68.n) : Bool) fun z88_70 =>
     bindv (s58.1 && z88_70 : Bool) fun z89_71 =>
     chk (z89_71 = true → (0 : Int) ≤ s58.2 ∧ s58.2 < (y19_6.1.length : Int)) <|
     bindv (gel y19_6.1 s58.2 : T) fun z93_73 =>
     chk (z89_71 = true → (0 : Int) ≤ s58.2 ∧ s58.2 < (y24_8.1.length : Int)) <|
     bindv (gel y24_8.1 s58.2 : T) fun z99_76 =>
     bindv (decide ((z93_73.v.length : Int) = (z99_76.v.length : Int)) : Bool) fun z103_78 =>
     bindv (z89_71 && z103_78 : Bool) fun z104_79 =>
     bindv (fun (n81 : (Bool × Int) → Option (Bool)) (s81 : Bool × Int) =>
      chk (s81.1 = true → (0 : Int) ≤ s58.2 ∧ s58.2 < (y19_6.1.length : Int)) <|
      bindv (gel y19_6.1 s58.2 : T) fun z110_85 =>
      bindv (decide (s81.2 < (z110_85.v.length : Int)) : Bool) fun z114_87 =>
      bindv (s81.1 && z114_87 : Bool) fun z115_88 =>
      if z115_88 = true then (
       chk ((0 : Int) ≤ s58.2 ∧ s58.2 < (y19_6.1.length : Int)) <|
       bindv (gel y19_6.1 s58.2 : T) fun z120_92 =>
       chk ((0 : Int) ≤ s81.2 ∧ s81.2 < (z120_92.v.length : Int)) <|
       bindv (gel z120_92.v s81.2 : C) fun z124_95 =>
       chk ((0 : Int) ≤ s58.2 ∧ s58.2 < (y24_8.1.length : Int)) <|
       bindv (gel y24_8.1 s58.2 : T) fun z128_97 =>
       chk ((0 : Int) ≤ s81.2 ∧ s81.2 < (z128_97.v.length : Int)) <|
       bindv (gel z128_97.v s81.2 : C) fun z132_100 =>
       bindv ((decide (z124_95.s = z132_100.s) && (decide (z124_95.c = z132_100.c) && decide (z124_95.r = z132_100.r))) : Bool) fun z134_101 =>
       bindv (IntKind.wrap .i64 (s81.2 + 1) : Int) fun z117_102 =>
       n81 (z134_101, z117_102)
      ) else (
       bindv (IntKind.wrap .i64 (s58.2 + 1) : Int) fun z135_103 =>
       n58 (s81.1, z135_103)
      )
      ) fun B81 =>
     loopF B81 KK (z104_79, 0)
    ) else (
     J29 s58.1
    )
    ) fun B58 =>
   loopF B58 KK (z67_27, 0)
  )
 )
end Go.Sp
