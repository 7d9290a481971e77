/- What functions of the program compute, as partial functions: printed off the program's form (no proof here). -/
import Derived.Lib.Fields
import Derived.Lib.Index
import Derived.Lib.Join
import Derived.Lib.Replace
import Derived.Lib.Strings
import Derived.Lib.Bytealg
import Derived.Lib.Repeat
import Derived.Lib.BitFns
import Derived.Lib.ItoaNum
import Derived.Test.YtcecjdnkcbfhlaaGreatDoorPolPlain
import Derived.Test.YtcecjdnkcbfhlaaGreatDoorArgPlain
import Derived.Test.YtcecjdnkcbfhlaaGreatDoorNdPlain
import Derived.Test.YtcecjdnkcbfhlaaGreatDoorCellPlain
set_option linter.unusedSimpArgs false
set_option linter.unusedVariables false
set_option linter.unusedSectionVars false
namespace Go.Sp
open Go.Stp Go.ValP
def value_Num (x0 : Int) : Option (V) :=
 some (⟨1, x0, []⟩ : V)

def value_Fail (x0 : Int) : Option (V) :=
 some (⟨4, x0, []⟩ : V)

def value_Bool (x0 : Bool) : Option (V) :=
 bindv ((fun s4 =>
  some (⟨3, s4, []⟩ : V)
  ) : (Int) → Option (V)) fun J4 =>
 if x0 = true then (
  J4 1
 ) else (
  J4 0
 )

def value_Text (x0 : List UInt8) : Option (V) :=
 bindv (decide (64 < (x0.length : Int)) : Bool) fun z5_3 =>
 if z5_3 = true then (
  obind (value_Fail (2 : Int)) fun y6_5 =>
  some y6_5
 ) else (
  some (⟨2, 0, x0⟩ : V)
 )

def value_Made (x0 : Int) (x1 : Bool) : Option (V) :=
 bindv (!x1 : Bool) fun z6_3 =>
 if z6_3 = true then (
  obind (value_Fail (5 : Int)) fun y7_5 =>
  some y7_5
 ) else (
  obind (value_Num x0) fun y9_6 =>
  some y9_6
 )

def value_Right (x0 : V) : Option (Bool) :=
 bindv (decide (x0.k = 0) : Bool) fun z6_4 =>
 if z6_4 = true then (
  bindv (decide (x0.n = 0) : Bool) fun z9_6 =>
  bindv (decide (x0.s = []) : Bool) fun z13_7 =>
  bindv (z9_6 && z13_7 : Bool) fun z14_8 =>
  some z14_8
 ) else (
  bindv (decide (x0.k = 1) : Bool) fun z16_9 =>
  if z16_9 = true then (
   bindv (!decide (x0.n = (-9223372036854775808)) : Bool) fun z19_11 =>
   bindv (decide (x0.s = []) : Bool) fun z23_12 =>
   bindv (z19_11 && z23_12 : Bool) fun z24_13 =>
   some z24_13
  ) else (
   bindv (decide (x0.k = 2) : Bool) fun z26_14 =>
   if z26_14 = true then (
    bindv (decide (x0.n = 0) : Bool) fun z29_16 =>
    bindv (decide ((x0.s.length : Int) ≤ 64) : Bool) fun z34_17 =>
    bindv (z29_16 && z34_17 : Bool) fun z35_18 =>
    some z35_18
   ) else (
    bindv (decide (x0.k = 3) : Bool) fun z37_19 =>
    if z37_19 = true then (
     bindv (bits .and .i64 x0.n 1 : Int) fun z40_21 =>
     bindv (decide (z40_21 = x0.n) : Bool) fun z43_22 =>
     bindv (decide (x0.s = []) : Bool) fun z47_23 =>
     bindv (z43_22 && z47_23 : Bool) fun z48_24 =>
     some z48_24
    ) else (
     bindv (decide (x0.k = 4) : Bool) fun z50_25 =>
     if z50_25 = true then (
      bindv (decide (1 ≤ x0.n) : Bool) fun z53_27 =>
      bindv (decide (x0.n ≤ 7) : Bool) fun z57_28 =>
      bindv (z53_27 && z57_28 : Bool) fun z58_29 =>
      bindv (decide (x0.s = []) : Bool) fun z62_30 =>
      bindv (z58_29 && z62_30 : Bool) fun z63_31 =>
      some z63_31
     ) else (
      some false
     )
    )
   )
  )
 )

def value_like (x0 : V) (x1 : V) : Option (V) :=
 bindv (!decide (x0.k = 0) : Bool) fun z7_5 =>
 if z7_5 = true then (
  some x0
 ) else (
  bindv (decide (x1.k = 2) : Bool) fun z12_9 =>
  if z12_9 = true then (
   obind (value_Text []) fun y13_11 =>
   some y13_11
  ) else (
   bindv (decide (x1.k = 3) : Bool) fun z15_12 =>
   if z15_12 = true then (
    obind (value_Bool false) fun y16_14 =>
    some y16_14
   ) else (
    obind (value_Num (0 : Int)) fun y17_15 =>
    some y17_15
   )
  )
 )

def value_rank (x0 : V) : Option (Int) :=
 some x0.k

def num_fits (x0 : Int) : Option (Bool) :=
 bindv (decide ((-9223372036854775807) ≤ x0) : Bool) fun z4_1 =>
 some z4_1

def num_Add (x0 : Int) (x1 : Int) : Option (Int × Bool) :=
 bindv (IntKind.wrap .i64 (x0 + x1) : Int) fun z9_1 =>
 obind (num_fits z9_1) fun y12_2 =>
 bindv (decide (x0 < z9_1) : Bool) fun z16_3 =>
 bindv (decide (0 < x1) : Bool) fun z18_4 =>
 bindv (z16_3 == z18_4 : Bool) fun z19_5 =>
 bindv (y12_2 && z19_5 : Bool) fun z20_6 =>
 some (z9_1, z20_6)

def num_Sub (x0 : Int) (x1 : Int) : Option (Int × Bool) :=
 bindv (IntKind.wrap .i64 (-x1) : Int) fun z8_1 =>
 obind (num_Add x0 z8_1) fun y9_2 =>
 some (y9_2.1, y9_2.2)

def num_abs (x0 : Int) : Option (Int) :=
 bindv (decide (x0 < 0) : Bool) fun z4_2 =>
 if z4_2 = true then (
  bindv (IntKind.wrap .u64 x0 : Int) fun z6_4 =>
  bindv (IntKind.wrap .u64 (-z6_4) : Int) fun z7_5 =>
  some z7_5
 ) else (
  bindv (IntKind.wrap .u64 x0 : Int) fun z9_6 =>
  some z9_6
 )

def num_signed (x0 : Int) (x1 : Bool) : Option (Int × Bool) :=
 bindv (decide (9223372036854775807 < x0) : Bool) fun z7_2 =>
 if z7_2 = true then (
  some (0, false)
 ) else (
  if x1 = true then (
   bindv (IntKind.wrap .i64 x0 : Int) fun z10_6 =>
   bindv (IntKind.wrap .i64 (-z10_6) : Int) fun z11_7 =>
   some (z11_7, true)
  ) else (
   bindv (IntKind.wrap .i64 x0 : Int) fun z13_8 =>
   some (z13_8, true)
  )
 )
end Go.Sp
