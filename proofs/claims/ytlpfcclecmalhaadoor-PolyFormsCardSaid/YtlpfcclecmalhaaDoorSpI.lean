/- What functions of the program compute, as partial functions: printed off the program's form (no proof here). -/
import Derived.Test.YtlpfcclecmalhaaDoorSpD
set_option linter.unusedSimpArgs false
set_option linter.unusedVariables false
set_option linter.unusedSectionVars false
namespace Go.Sp
open Go.Stp Go.ValP
def reckonerlaw15_PolyForms (x0 : List (Int)) : Option (Bool) :=
 obind (reckonerlaw15_fit) fun y16_2 =>
 bindv (!y16_2 : Bool) fun z17_3 =>
 if z17_3 = true then (
  some false
 ) else (
  obind (reckonerlaw15_Make x0) fun y20_5 =>
  bindv (!y20_5.2 : Bool) fun z24_8 =>
  if z24_8 = true then (
   bindv (decide ((y20_5.1.length : Int) = 0) : Bool) fun z27_10 =>
   some z27_10
  ) else (
   bindv ((fun s13 =>
    obind (poly_Const ((-1) : Int)) fun y73_14 =>
    obind (poly_Const (1000001 : Int)) fun y77_16 =>
    obind (poly_Const (0 : Int)) fun y81_18 =>
    bindv (decide ((y20_5.1.length : Int) ≤ 32) : Bool) fun z86_20 =>
    bindv (!y73_14.2 : Bool) fun z89_21 =>
    bindv (z86_20 && z89_21 : Bool) fun z90_22 =>
    bindv (!y77_16.2 : Bool) fun z93_23 =>
    bindv (z90_22 && z93_23 : Bool) fun z94_24 =>
    bindv (z94_24 && y81_18.2 : Bool) fun z97_25 =>
    bindv (decide ((y81_18.1.length : Int) = 0) : Bool) fun z101_26 =>
    bindv (z97_25 && z101_26 : Bool) fun z102_27 =>
    obind (if z102_27 = true then poly_Print y81_18.1 else some default) fun y105_28 =>
    bindv (decide (y105_28 = ([48] : List UInt8)) : Bool) fun z106_29 =>
    bindv (z102_27 && z106_29 : Bool) fun z107_30 =>
    some z107_30
    ) : ((List (List UInt8 × Bool))) → Option (Bool)) fun J13 =>
   bindv (fun (n32 : (Int × Int × (List (List UInt8 × Bool))) → Option (Bool)) (s32 : Int × Int × (List (List UInt8 × Bool))) =>
    bindv (decide (s32.2.1 < (y20_5.1.length : Int)) : Bool) fun z32_34 =>
    if z32_34 = true then (
     chk ((0 : Int) ≤ s32.2.1 ∧ s32.2.1 < (y20_5.1.length : Int)) <|
     bindv (gel y20_5.1 s32.2.1 : T) fun z33_39 =>
     obind (poly_Print [(⟨1, z33_39.v⟩ : T)]) fun y39_43 =>
     bindv (mget s32.2.2 y39_43 : Bool) fun z42_45 =>
     bindv (decide (z33_39.n < 1) : Bool) fun z46_46 =>
     bindv (z42_45 || z46_46 : Bool) fun z47_47 =>
     bindv (decide (1000000 < z33_39.n) : Bool) fun z51_48 =>
     bindv (z47_47 || z51_48 : Bool) fun z52_49 =>
     bindv (decide (4 < (z33_39.v.length : Int)) : Bool) fun z57_50 =>
     bindv (z52_49 || z57_50 : Bool) fun z58_51 =>
     bindv (decide ((z33_39.v.length : Int) < s32.1) : Bool) fun z64_52 =>
     bindv (z58_51 || z64_52 : Bool) fun z65_53 =>
     if z65_53 = true then (
      some false
     ) else (
      bindv (mput s32.2.2 y39_43 true : List (List UInt8 × Bool)) fun zm0_55 =>
      bindv (IntKind.wrap .i64 (s32.2.1 + 1) : Int) fun z71_56 =>
      n32 ((z33_39.v.length : Int), z71_56, zm0_55)
     )
    ) else (
     J13 s32.2.2
    )
    ) fun B32 =>
   loopF B32 KK (0, 0, ([] : List (List UInt8 × Bool)))
  )
 )
end Go.Sp
