/- What functions of the program compute, as partial functions: printed off the program's form (no proof here). -/
import Derived.Test.YtcecjdnkcbfhlaaGreatDoorSpB
set_option linter.unusedSimpArgs false
set_option linter.unusedVariables false
set_option linter.unusedSectionVars false
namespace Go.Sp
open Go.Stp Go.ValP
def tree_Value (x0 : V) : Option (Nd) :=
 some ((⟨1, 0, x0, (⟨(⟨0, 0, 0⟩ : C), false, false⟩ : Rf), (⟨(⟨0, 0, 0⟩ : C), false, false⟩ : Rf), [], []⟩ : Nd))

def tree_Cell (x0 : Rf) : Option (Nd) :=
 some ((⟨2, 0, (⟨0, 0, []⟩ : V), x0, (⟨(⟨0, 0, 0⟩ : C), false, false⟩ : Rf), [], []⟩ : Nd))

def tree_Apply (x0 : Int) (x1 : List (Nd)) : Option (Nd) :=
 chk (([] : List (Nd)).length + x1.length ≤ 9223372036854775807 ∧ (([] : List (Nd)).length + x1.length) * 152 ≤ 140737488355328) <|
 bindv (([] : List (Nd)) ++ x1 : List (Nd)) fun z7_4 =>
 some ((⟨8, x0, (⟨0, 0, []⟩ : V), (⟨(⟨0, 0, 0⟩ : C), false, false⟩ : Rf), (⟨(⟨0, 0, 0⟩ : C), false, false⟩ : Rf), [], z7_4⟩ : Nd))

def tree_Unary (x0 : Int) (x1 : Nd) : Option (Nd) :=
 some ((⟨x0, 0, (⟨0, 0, []⟩ : V), (⟨(⟨0, 0, 0⟩ : C), false, false⟩ : Rf), (⟨(⟨0, 0, 0⟩ : C), false, false⟩ : Rf), [], [x1]⟩ : Nd))

def tree_Binary (x0 : Int) (x1 : Nd) (x2 : Nd) : Option (Nd) :=
 some ((⟨7, x0, (⟨0, 0, []⟩ : V), (⟨(⟨0, 0, 0⟩ : C), false, false⟩ : Rf), (⟨(⟨0, 0, 0⟩ : C), false, false⟩ : Rf), [], [x1, x2]⟩ : Nd))

def tree_Span (x0 : Rf) (x1 : Rf) : Option (Nd) :=
 some (⟨3, 0, (⟨0, 0, []⟩ : V), x0, x1, [], []⟩ : Nd)

def addr_Order (x0 : C) (x1 : C) : Option (C × C × Bool) :=
 bindv (!decide (x0.s = x1.s) : Bool) fun z11_6 =>
 if z11_6 = true then (
  some (x0, x1, false)
 ) else (
  bindv (min x0.c x1.c : Int) fun z20_8 =>
  bindv (min x0.r x1.r : Int) fun z25_9 =>
  bindv (max x0.c x1.c : Int) fun z33_10 =>
  bindv (max x0.r x1.r : Int) fun z38_11 =>
  some ((⟨x0.s, z20_8, z25_9⟩ : C), (⟨x0.s, z33_10, z38_11⟩ : C), true)
 )

def addr_Less (x0 : C) (x1 : C) : Option (Bool) :=
 bindv (!decide (x0.s = x1.s) : Bool) fun z9_4 =>
 if z9_4 = true then (
  bindv (decide (x0.s < x1.s) : Bool) fun z14_6 =>
  some z14_6
 ) else (
  bindv (!decide (x0.r = x1.r) : Bool) fun z19_8 =>
  if z19_8 = true then (
   bindv (decide (x0.r < x1.r) : Bool) fun z24_10 =>
   some z24_10
  ) else (
   bindv (decide (x0.c < x1.c) : Bool) fun z29_11 =>
   some z29_11
  )
 )

def reckonerref13_Place_At (x0 : List V) (x1 : C) : Option (V) :=
 bindv (decide (x1.s < 0) : Bool) fun z7_4 =>
 bindv (decide (1 < x1.s) : Bool) fun z11_5 =>
 bindv (z7_4 || z11_5 : Bool) fun z12_6 =>
 bindv (decide (x1.c < 0) : Bool) fun z16_7 =>
 bindv (z12_6 || z16_7 : Bool) fun z17_8 =>
 bindv (decide (7 < x1.c) : Bool) fun z21_9 =>
 bindv (z17_8 || z21_9 : Bool) fun z22_10 =>
 bindv (decide (x1.r < 0) : Bool) fun z26_11 =>
 bindv (z22_10 || z26_11 : Bool) fun z27_12 =>
 bindv (decide (7 < x1.r) : Bool) fun z31_13 =>
 bindv (z27_12 || z31_13 : Bool) fun z32_14 =>
 if z32_14 = true then (
  some (⟨0, 0, []⟩ : V)
 ) else (
  bindv (IntKind.wrap .i64 (8 * x1.r) : Int) fun z39_16 =>
  bindv (IntKind.wrap .i64 (z39_16 + x1.c) : Int) fun z42_17 =>
  chk ((0 : Int) ≤ x1.s ∧ x1.s < (2 : Int)) <|
  chk ((0 : Int) ≤ z42_17 ∧ z42_17 < (64 : Int)) <|
  bindv (gel x0 (64 * x1.s + z42_17) : V) fun z47_20 =>
  some z47_20
 )

def reckonerref13_Place_Value (x0 : List V) (x1 : C) : Option (V × C) :=
 obind (reckonerref13_Place_At x0 x1) fun y9_4 =>
 bindv (decide (y9_4.k = 4) : Bool) fun z12_7 =>
 if z12_7 = true then (
  some (y9_4, x1)
 ) else (
  some (y9_4, (⟨0, 0, 0⟩ : C))
 )

def reckonerref13_Place_Name (x0 : List V) (x1 : List UInt8) : Option (Nd × Bool) :=
 bindv (decide (x1 = ([82, 65, 84, 69] : List UInt8)) : Bool) fun z13_4 =>
 if z13_4 = true then (
  some ((⟨2, 0, (⟨0, 0, []⟩ : V), (⟨(⟨0, 0, 0⟩ : C), false, false⟩ : Rf), (⟨(⟨0, 0, 0⟩ : C), false, false⟩ : Rf), [], []⟩ : Nd), true)
 ) else (
  bindv (decide (x1 = ([76, 73, 83, 84] : List UInt8)) : Bool) fun z16_7 =>
  if z16_7 = true then (
   some ((⟨3, 0, (⟨0, 0, []⟩ : V), (⟨(⟨0, 0, 0⟩ : C), false, false⟩ : Rf), (⟨(⟨0, 1, 1⟩ : C), false, false⟩ : Rf), [], []⟩ : Nd), true)
  ) else (
   some ((⟨0, 0, (⟨0, 0, []⟩ : V), (⟨(⟨0, 0, 0⟩ : C), false, false⟩ : Rf), (⟨(⟨0, 0, 0⟩ : C), false, false⟩ : Rf), [], []⟩ : Nd), false)
  )
 )

def reckonerlaw13_Place (x0 : List (V)) : Option (List V) :=
 bindv ((fun s3 =>
  some s3
  ) : ((List V)) → Option (List V)) fun J3 =>
 bindv (fun (n5 : (Int × (List V)) → Option (List V)) (s5 : Int × (List V)) =>
  bindv (decide (s5.1 < (x0.length : Int)) : Bool) fun z11_7 =>
  if z11_7 = true then (
   chk ((0 : Int) ≤ s5.1 ∧ s5.1 < (x0.length : Int)) <|
   bindv (gel x0 s5.1 : V) fun z13_12 =>
   bindv (decide (s5.1 < 128) : Bool) fun z16_14 =>
   bindv (decide ((z13_12.s.length : Int) ≤ 64) : Bool) fun z21_15 =>
   bindv (z16_14 && z21_15 : Bool) fun z22_16 =>
   obind (if z22_16 = true then value_Right z13_12 else some default) fun y25_17 =>
   bindv (z22_16 && y25_17 : Bool) fun z26_18 =>
   if z26_18 = true then (
    bindv (bits .and .i64 s5.1 1 : Int) fun z29_20 =>
    bindv (IntKind.wrap .i64 (Int.tdiv s5.1 2) : Int) fun z31_21 =>
    chk ((0 : Int) ≤ z29_20 ∧ z29_20 < (2 : Int)) <|
    chk ((0 : Int) ≤ z31_21 ∧ z31_21 < (64 : Int)) <|
    bindv (s5.2.set (Int.toNat (64 * z29_20 + z31_21)) z13_12 : List V) fun zp0_24 =>
    bindv (IntKind.wrap .i64 (s5.1 + 1) : Int) fun z37_25 =>
    n5 (z37_25, zp0_24)
   ) else (
    bindv (IntKind.wrap .i64 (s5.1 + 1) : Int) fun z37_26 =>
    n5 (z37_26, s5.2)
   )
  ) else (
   J3 s5.2
  )
  ) fun B5 =>
 loopF B5 KK (0, zeroPl)

def eval_Area (x0 : List V) (x1 : Nd) : Option (C × C × Bool) :=
 bindv ((fun s5 =>
  bindv (decide (s5.1 = 3) : Bool) fun z24_9 =>
  if z24_9 = true then (
   obind (addr_Order (⟨s5.2.2.2.2.2.1, s5.2.2.2.2.2.2.1, s5.2.2.2.2.2.2.2.1⟩ : C) (⟨s5.2.2.2.2.2.2.2.2.2.2.1, s5.2.2.2.2.2.2.2.2.2.2.2.1, s5.2.2.2.2.2.2.2.2.2.2.2.2.1⟩ : C)) fun y31_11 =>
   some (y31_11.1, y31_11.2.1, y31_11.2.2)
  ) else (
   bindv (decide (s5.1 = 2) : Bool) fun z36_12 =>
   if z36_12 = true then (
    some ((⟨s5.2.2.2.2.2.1, s5.2.2.2.2.2.2.1, s5.2.2.2.2.2.2.2.1⟩ : C), (⟨s5.2.2.2.2.2.1, s5.2.2.2.2.2.2.1, s5.2.2.2.2.2.2.2.1⟩ : C), true)
   ) else (
    some ((⟨0, 0, 0⟩ : C), (⟨0, 0, 0⟩ : C), false)
   )
  )
  ) : (Int × Int × Int × Int × (List UInt8) × Int × Int × Int × Bool × Bool × Int × Int × Int × Bool × Bool × (List UInt8) × (List (Nd))) → Option (C × C × Bool)) fun J5 =>
 bindv (decide (x1.k = 4) : Bool) fun z11_14 =>
 if z11_14 = true then (
  obind (reckonerref13_Place_Name x0 x1.nm) fun y16_16 =>
  if y16_16.2 = true then (
   J5 (y16_16.1.k, y16_16.1.op, y16_16.1.v.k, y16_16.1.v.n, y16_16.1.v.s, y16_16.1.a.c.s, y16_16.1.a.c.c, y16_16.1.a.c.r, y16_16.1.a.ac, y16_16.1.a.ar, y16_16.1.b.c.s, y16_16.1.b.c.c, y16_16.1.b.c.r, y16_16.1.b.ac, y16_16.1.b.ar, y16_16.1.nm, y16_16.1.l)
  ) else (
   J5 (x1.k, x1.op, x1.v.k, x1.v.n, x1.v.s, x1.a.c.s, x1.a.c.c, x1.a.c.r, x1.a.ac, x1.a.ar, x1.b.c.s, x1.b.c.c, x1.b.c.r, x1.b.ac, x1.b.ar, x1.nm, x1.l)
  )
 ) else (
  J5 (x1.k, x1.op, x1.v.k, x1.v.n, x1.v.s, x1.a.c.s, x1.a.c.c, x1.a.c.r, x1.a.ac, x1.a.ar, x1.b.c.s, x1.b.c.c, x1.b.c.r, x1.b.ac, x1.b.ar, x1.nm, x1.l)
 )

def eval_run_made (x0 : Rn) (x1 : V) (m0 : List (C × Bool)) : Option ((Gt) × List (C × Bool)) :=
 some ((⟨x1, x0.c⟩ : Gt), m0)

def eval_run_cell (x0 : Rn) (x1 : C) (m0 : List (C × Bool)) : Option ((Gt) × List (C × Bool)) :=
 bindv (mput m0 x1 true : List (C × Bool)) fun zm0_3 =>
 obind (reckonerref13_Place_Value x0.p x1) fun y18_4 =>
 some ((⟨y18_4.1, y18_4.2⟩ : Gt), zm0_3)

def eval_run_truth (rec : Rn → Nd → (List (C × Bool)) → Option ((Gt) × List (C × Bool))) (x0 : Rn) (x1 : Nd) (m0 : List (C × Bool)) : Option ((Gt) × List (C × Bool)) :=
 obind (rec x0 x1 m0) fun y8_3 =>
 bindv (decide (y8_3.1.v.k = 4) : Bool) fun z12_7 =>
 if z12_7 = true then (
  some (y8_3.1, y8_3.2)
 ) else (
  obind (value_ToBool y8_3.1.v) fun y17_9 =>
  obind (eval_run_made x0 y17_9 y8_3.2) fun y18_10 =>
  some (y18_10.1, y18_10.2)
 )

def eval_run_lazy (rec : Rn → Nd → (List (C × Bool)) → Option ((Gt) × List (C × Bool))) (x0 : Rn) (x1 : Nd) (m0 : List (C × Bool)) : Option ((Gt) × List (C × Bool)) :=
 bindv ((fun s4 =>
  chk ((0 : Int) ≤ 0 ∧ 0 < (x1.l.length : Int)) <|
  bindv (gel x1.l 0 : Nd) fun z116_6 =>
  obind (eval_run_truth rec x0 z116_6 s4.1) fun y118_8 =>
  bindv (decide (y118_8.1.v.k = 4) : Bool) fun z123_12 =>
  if z123_12 = true then (
   some (y118_8.1, y118_8.2)
  ) else (
   bindv (decide (y118_8.1.v.n = 1) : Bool) fun z129_14 =>
   if z129_14 = true then (
    chk ((0 : Int) ≤ 1 ∧ 1 < (x1.l.length : Int)) <|
    bindv (gel x1.l 1 : Nd) fun z133_17 =>
    obind (rec x0 z133_17 y118_8.2) fun y135_19 =>
    some (y135_19.1, y135_19.2)
   ) else (
    bindv (decide ((x1.l.length : Int) = 3) : Bool) fun z140_21 =>
    if z140_21 = true then (
     chk ((0 : Int) ≤ 2 ∧ 2 < (x1.l.length : Int)) <|
     bindv (gel x1.l 2 : Nd) fun z144_24 =>
     obind (rec x0 z144_24 y118_8.2) fun y146_26 =>
     some (y146_26.1, y146_26.2)
    ) else (
     obind (value_Bool false) fun y148_28 =>
     obind (eval_run_made x0 y148_28 y118_8.2) fun y149_29 =>
     some (y149_29.1, y149_29.2)
    )
   )
  )
  ) : ((List (C × Bool)) × Int × Int × (List UInt8) × Int × Int × Int) → Option ((Gt) × List (C × Bool))) fun J4 =>
 bindv (decide (x1.op = 2) : Bool) fun z16_32 =>
 if z16_32 = true then (
  chk ((0 : Int) ≤ 0 ∧ 0 < (x1.l.length : Int)) <|
  bindv (gel x1.l 0 : Nd) fun z20_35 =>
  obind (rec x0 z20_35 m0) fun y22_37 =>
  bindv (!decide (y22_37.1.v.k = 4) : Bool) fun z26_41 =>
  if z26_41 = true then (
   some (y22_37.1, y22_37.2)
  ) else (
   chk ((0 : Int) ≤ 1 ∧ 1 < (x1.l.length : Int)) <|
   bindv (gel x1.l 1 : Nd) fun z31_44 =>
   obind (rec x0 z31_44 y22_37.2) fun y33_46 =>
   some (y33_46.1, y33_46.2)
  )
 ) else (
  bindv ((fun s49 =>
   if s49 = true then (
    bindv ((fun s52 =>
     bindv (decide (x1.op = 3) : Bool) fun z66_53 =>
     obind (value_Bool z66_53) fun y67_54 =>
     obind (eval_run_made x0 y67_54 s52.1) fun y68_55 =>
     some (y68_55.1, y68_55.2)
     ) : ((List (C × Bool)) × Int × Int × (List UInt8) × Int × Int × Int) → Option ((Gt) × List (C × Bool))) fun J52 =>
    bindv (fun (n58 : (Int × (List (C × Bool)) × Int × Int × (List UInt8) × Int × Int × Int) → Option ((Gt) × List (C × Bool))) (s58 : Int × (List (C × Bool)) × Int × Int × (List UInt8) × Int × Int × Int) =>
     bindv (decide (s58.1 < (x1.l.length : Int)) : Bool) fun z41_60 =>
     if z41_60 = true then (
      chk ((0 : Int) ≤ s58.1 ∧ s58.1 < (x1.l.length : Int)) <|
      bindv (gel x1.l s58.1 : Nd) fun z42_65 =>
      obind (eval_run_truth rec x0 z42_65 s58.2.1) fun y46_68 =>
      bindv (decide (y46_68.1.v.k = 4) : Bool) fun z50_71 =>
      bindv (decide (y46_68.1.v.n = 1) : Bool) fun z55_72 =>
      bindv (decide (x1.op = 4) : Bool) fun z58_73 =>
      bindv (z55_72 == z58_73 : Bool) fun z59_74 =>
      bindv (z50_71 || z59_74 : Bool) fun z60_75 =>
      if z60_75 = true then (
       some (y46_68.1, y46_68.2)
      ) else (
       bindv (IntKind.wrap .i64 (s58.1 + 1) : Int) fun z62_77 =>
       n58 (z62_77, y46_68.2, s58.2.2.1, s58.2.2.2.1, s58.2.2.2.2.1, s58.2.2.2.2.2.1, s58.2.2.2.2.2.2.1, s58.2.2.2.2.2.2.2)
      )
     ) else (
      J52 (s58.2.1, s58.2.2.1, s58.2.2.2.1, s58.2.2.2.2.1, s58.2.2.2.2.2.1, s58.2.2.2.2.2.2.1, s58.2.2.2.2.2.2.2)
     )
     ) fun B58 =>
    loopF B58 KK (0, m0, 0, 0, [], 0, 0, 0)
   ) else (
    bindv (decide (x1.op = 5) : Bool) fun z70_78 =>
    if z70_78 = true then (
     chk ((0 : Int) ≤ 0 ∧ 0 < (x1.l.length : Int)) <|
     bindv (gel x1.l 0 : Nd) fun z74_81 =>
     obind (rec x0 z74_81 m0) fun y76_83 =>
     bindv (decide (y76_83.1.v.k = 4) : Bool) fun z80_87 =>
     if z80_87 = true then (
      some (y76_83.1, y76_83.2)
     ) else (
      obind (value_ToNum y76_83.1.v) fun y84_89 =>
      bindv (decide (y84_89.k = 4) : Bool) fun z87_92 =>
      if z87_92 = true then (
       obind (eval_run_made x0 y84_89 y76_83.2) fun y90_94 =>
       some (y90_94.1, y90_94.2)
      ) else (
       bindv (IntKind.wrap .i64 (Int.tdiv y84_89.n 1000000) : Int) fun z93_97 =>
       bindv (decide (1 ≤ z93_97) : Bool) fun z95_98 =>
       bindv (decide (z93_97 < (x1.l.length : Int)) : Bool) fun z101_99 =>
       bindv (z95_98 && z101_99 : Bool) fun z102_100 =>
       if z102_100 = true then (
        chk ((0 : Int) ≤ z93_97 ∧ z93_97 < (x1.l.length : Int)) <|
        bindv (gel x1.l z93_97 : Nd) fun z107_103 =>
        obind (rec x0 z107_103 y76_83.2) fun y109_105 =>
        some (y109_105.1, y109_105.2)
       ) else (
        obind (value_Fail (2 : Int)) fun y111_107 =>
        obind (eval_run_made x0 y111_107 y76_83.2) fun y112_108 =>
        some (y112_108.1, y112_108.2)
       )
      )
     )
    ) else (
     J4 (m0, 0, 0, [], 0, 0, 0)
    )
   )
   ) : (Bool) → Option ((Gt) × List (C × Bool))) fun J49 =>
  bindv (decide (x1.op = 3) : Bool) fun z35_110 =>
  if z35_110 = true then (
   J49 z35_110
  ) else (
   bindv (decide (x1.op = 4) : Bool) fun z36_112 =>
   J49 z36_112
  )
 )

def eval_run_eval_B (rec : Rn → Nd → (List (C × Bool)) → Option ((Gt) × List (C × Bool))) (x0 : Rn) (x1 : Nd) (m0 : List (C × Bool)) : Option ((Gt) × List (C × Bool)) :=
 bindv (decide (x1.k = 1) : Bool) fun z14_5 =>
 if z14_5 = true then (
  obind (eval_run_made x0 x1.v m0) fun y18_7 =>
  some (y18_7.1, y18_7.2)
 ) else (
  bindv ((fun s10 =>
   if s10 = true then (
    obind (eval_Area x0.p x1) fun y29_12 =>
    bindv (!y29_12.2.2 : Bool) fun z34_16 =>
    if z34_16 = true then (
     obind (value_Fail (4 : Int)) fun y36_18 =>
     obind (eval_run_made x0 y36_18 m0) fun y37_19 =>
     some (y37_19.1, y37_19.2)
    ) else (
     bindv (!((decide (y29_12.1.s = y29_12.2.1.s) && (decide (y29_12.1.c = y29_12.2.1.c) && decide (y29_12.1.r = y29_12.2.1.r)))) : Bool) fun z40_22 =>
     if z40_22 = true then (
      obind (value_Fail (2 : Int)) fun y42_24 =>
      obind (eval_run_made x0 y42_24 m0) fun y43_25 =>
      some (y43_25.1, y43_25.2)
     ) else (
      obind (eval_run_cell x0 y29_12.1 m0) fun y46_27 =>
      some (y46_27.1, y46_27.2)
     )
    )
   ) else (
    bindv ((fun s30 =>
     if s30 = true then (
      chk ((0 : Int) ≤ 0 ∧ 0 < (x1.l.length : Int)) <|
      bindv (gel x1.l 0 : Nd) fun z53_33 =>
      obind (rec x0 z53_33 m0) fun y55_35 =>
      bindv (decide (y55_35.1.v.k = 4) : Bool) fun z59_39 =>
      if z59_39 = true then (
       some (y55_35.1, y55_35.2)
      ) else (
       none
      )
     ) else (
      bindv (decide (x1.k = 7) : Bool) fun z69_41 =>
      if z69_41 = true then (
       chk ((0 : Int) ≤ 0 ∧ 0 < (x1.l.length : Int)) <|
       bindv (gel x1.l 0 : Nd) fun z73_44 =>
       obind (rec x0 z73_44 m0) fun y75_46 =>
       bindv (decide (y75_46.1.v.k = 4) : Bool) fun z79_50 =>
       if z79_50 = true then (
        some (y75_46.1, y75_46.2)
       ) else (
        chk ((0 : Int) ≤ 1 ∧ 1 < (x1.l.length : Int)) <|
        bindv (gel x1.l 1 : Nd) fun z84_53 =>
        obind (rec x0 z84_53 y75_46.2) fun y86_55 =>
        bindv (decide (y86_55.1.v.k = 4) : Bool) fun z90_59 =>
        if z90_59 = true then (
         some (y86_55.1, y86_55.2)
        ) else (
         none
        )
       )
      ) else (
       bindv (decide (x1.op ≤ 5) : Bool) fun z103_62 =>
       if z103_62 = true then (
        obind (eval_run_lazy rec x0 x1 m0) fun y106_64 =>
        some (y106_64.1, y106_64.2)
       ) else (
        none
       )
      )
     )
     ) : (Bool) → Option ((Gt) × List (C × Bool))) fun J30 =>
    bindv (decide (x1.k = 5) : Bool) fun z48_66 =>
    if z48_66 = true then (
     J30 z48_66
    ) else (
     bindv (decide (x1.k = 6) : Bool) fun z49_68 =>
     J30 z49_68
    )
   )
   ) : (Bool) → Option ((Gt) × List (C × Bool))) fun J10 =>
  bindv (decide (x1.k = 2) : Bool) fun z20_69 =>
  if z20_69 = true then (
   J10 z20_69
  ) else (
   bindv (decide (x1.k = 3) : Bool) fun z21_71 =>
   if z21_71 = true then (
    J10 z21_71
   ) else (
    bindv (decide (x1.k = 4) : Bool) fun z22_73 =>
    J10 z22_73
   )
  )
 )
def eval_run_eval : Nat → Rn → Nd → (List (C × Bool)) → Option ((Gt) × List (C × Bool))
 | 0, _, _, _ => none
 | k + 1, x0, x1, m0 => eval_run_eval_B (eval_run_eval k) x0 x1 m0
end Go.Sp
