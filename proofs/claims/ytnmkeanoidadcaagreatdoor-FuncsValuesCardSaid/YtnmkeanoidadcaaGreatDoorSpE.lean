/- What functions of the program compute, as partial functions: printed off the program's form (no proof here). -/
import Derived.Test.YtnmkeanoidadcaaGreatDoorSpD
set_option linter.unusedSimpArgs false
set_option linter.unusedVariables false
set_option linter.unusedSectionVars false
namespace Go.Sp
open Go.Stp Go.ValP
def reckonerlaw12_FuncsValues (x0 : Int) (x1 : List (V)) (x2 : Int) : Option (Bool) :=
 obind (reckonerlaw12_fit) fun y16_2 =>
 bindv (!y16_2 : Bool) fun z17_3 =>
 if z17_3 = true then (
  some false
 ) else (
  bindv (Int.tmod x0 49 : Int) fun z19_5 =>
  bindv (IntKind.wrap .i64 (z19_5 + 49) : Int) fun z20_6 =>
  bindv (Int.tmod z20_6 49 : Int) fun z21_7 =>
  bindv (IntKind.wrap .i64 (z21_7 + 6) : Int) fun z22_8 =>
  bindv (decide (30 < (x1.length : Int)) : Bool) fun z25_10 =>
  if z25_10 = true then (
   some true
  ) else (
   bindv ((fun s13 =>
    bindv ((fun s15 =>
     bindv ((fun s19 =>
      some true
      ) : (Unit) → Option (Bool)) fun J19 =>
     bindv (IntKind.wrap .i64 ((s15.length : Int) + 1) : Int) fun z67_20 =>
     bindv (fun (n22 : (Int) → Option (Bool)) (s22 : Int) =>
      bindv (decide (s22 < z67_20) : Bool) fun z69_24 =>
      if z69_24 = true then (
       bindv (decide (9 < s22) : Bool) fun z72_29 =>
       if z72_29 = true then (
        J19 ()
       ) else (
        chk ((0 : Int) ≤ (0 : Int) ∧ (0 : Int) ≤ s22 ∧ s22 ≤ (s15.length : Int)) <|
        bindv (cutL s15 (0 : Int) s22 : List (Arg)) fun z76_32 =>
        obind (funcs_Apply z22_8 z76_32) fun y77_34 =>
        obind (value_Right y77_34) fun y79_36 =>
        bindv (!y79_36 : Bool) fun z80_37 =>
        obind (if (!z80_37) = true then tree_Fits z22_8 s22 else some default) fun y84_38 =>
        bindv (!y84_38 : Bool) fun z85_39 =>
        obind (if (!z80_37 && z85_39) = true then value_Fail (2 : Int) else some default) fun y88_40 =>
        bindv (!((decide (y77_34.k = y88_40.k) && (decide (y77_34.n = y88_40.n) && decide (y77_34.s = y88_40.s)))) : Bool) fun z89_41 =>
        bindv (z85_39 && z89_41 : Bool) fun z90_42 =>
        bindv (z80_37 || z90_42 : Bool) fun z91_43 =>
        if z91_43 = true then (
         some false
        ) else (
         bindv (IntKind.wrap .i64 (s22 + 1) : Int) fun z92_45 =>
         n22 z92_45
        )
       )
      ) else (
       J19 ()
      )
      ) fun B22 =>
     loopF B22 KK 0
     ) : ((List (Arg))) → Option (Bool)) fun J15 =>
    bindv (fun (n47 : (Int × (List (Arg))) → Option (Bool)) (s47 : Int × (List (Arg))) =>
     bindv (decide (s47.1 < (x1.length : Int)) : Bool) fun z39_50 =>
     if z39_50 = true then (
      chk ((0 : Int) ≤ s47.1 ∧ s47.1 < (x1.length : Int)) <|
      bindv (gel x1 s47.1 : V) fun z41_55 =>
      obind (funcs_Of z41_55) fun y44_57 =>
      bindv ((fun s61 =>
       chk (s47.2.length + [(⟨s61.1, s61.2.1, s61.2.2⟩ : Arg)].length ≤ 9223372036854775807 ∧ (s47.2.length + [(⟨s61.1, s61.2.1, s61.2.2⟩ : Arg)].length) * 40 ≤ 140737488355328) <|
       bindv (s47.2 ++ [(⟨s61.1, s61.2.1, s61.2.2⟩ : Arg)] : List (Arg)) fun z63_66 =>
       bindv (IntKind.wrap .i64 (s47.1 + 1) : Int) fun z64_67 =>
       n47 (z64_67, z63_66)
       ) : (Bool × Int × (List (V))) → Option (Bool)) fun J61 =>
      bindv (bits .and .i64 s47.1 3 : Int) fun z46_68 =>
      bindv (decide (z46_68 = 3) : Bool) fun z47_69 =>
      if z47_69 = true then (
       bindv (bits .and .i64 x2 1 : Int) fun z49_71 =>
       bindv (IntKind.wrap .i64 (z49_71 + 1) : Int) fun z50_72 =>
       chk (z50_72 ≠ 0) <|
       bindv (IntKind.wrap .i64 (Int.tdiv s47.1 z50_72) : Int) fun z55_74 =>
       bindv (IntKind.wrap .i64 (z55_74 * z50_72) : Int) fun z57_75 =>
       chk ((0 : Int) ≤ (0 : Int) ∧ (0 : Int) ≤ z57_75 ∧ z57_75 ≤ (x1.length : Int)) <|
       bindv (cutL x1 (0 : Int) z57_75 : List (V)) fun z58_77 =>
       J61 (true, z50_72, z58_77)
      ) else (
       J61 (y44_57.area, y44_57.cols, y44_57.l)
      )
     ) else (
      J15 s47.2
     )
     ) fun B47 =>
    loopF B47 KK (0, ([] : List (Arg)))
    ) : (Unit) → Option (Bool)) fun J13 =>
   bindv (fun (n80 : (Int) → Option (Bool)) (s80 : Int) =>
    bindv (decide (s80 < (x1.length : Int)) : Bool) fun z29_82 =>
    if z29_82 = true then (
     chk ((0 : Int) ≤ s80 ∧ s80 < (x1.length : Int)) <|
     bindv (gel x1 s80 : V) fun z30_87 =>
     obind (reckonerlaw12_good z30_87) fun y33_89 =>
     bindv (!y33_89 : Bool) fun z34_90 =>
     if z34_90 = true then (
      some true
     ) else (
      bindv (IntKind.wrap .i64 (s80 + 1) : Int) fun z35_92 =>
      n80 z35_92
     )
    ) else (
     J13 ()
    )
    ) fun B80 =>
   loopF B80 KK 0
  )
 )
end Go.Sp
