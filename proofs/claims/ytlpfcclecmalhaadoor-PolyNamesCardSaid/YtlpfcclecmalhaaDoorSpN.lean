/- What functions of the program compute, as partial functions: printed off the program's form (no proof here). -/
import Derived.Test.YtlpfcclecmalhaaDoorSpD
set_option linter.unusedSimpArgs false
set_option linter.unusedVariables false
set_option linter.unusedSectionVars false
namespace Go.Sp
open Go.Stp Go.ValP
def text0 : List UInt8 := [73, 70, 50, 51, 32, 73, 70, 69, 82, 82, 79, 82, 50, 50, 32, 65, 78, 68, 49, 57, 32, 79, 82, 49, 57, 32, 67, 72, 79, 79, 83, 69, 50, 57, 32, 65, 66, 83, 49, 49, 32, 83, 73, 71, 78, 49, 49, 32, 73, 78, 84, 49, 49, 32, 82, 79, 85, 78, 68, 50, 50, 32, 77, 79, 68, 50, 50, 32, 80, 79, 87, 69, 82, 50, 50, 32, 81, 85, 79, 84, 73, 69, 78, 84, 50, 50, 32, 71, 67, 68, 50, 50, 32, 76, 67, 77, 50, 50, 32, 70, 65, 67, 84, 49, 49, 32, 69, 86, 69, 78, 49, 49, 32, 79, 68, 68, 49, 49, 32, 84, 82, 85, 78, 67, 49, 49, 32, 77, 73, 78, 49, 57, 32, 77, 65, 88, 49, 57, 32, 83, 85, 77, 49, 57, 32, 80, 82, 79, 68, 85, 67, 84, 49, 57, 32, 67, 79, 85, 78, 84, 49, 57, 32, 67, 79, 85, 78, 84, 65, 49, 57, 32, 67, 79, 85, 78, 84, 66, 76, 65, 78, 75, 49, 49, 32, 65, 86, 69, 82, 65, 71, 69, 49, 57, 32, 83, 85, 77, 73, 70, 50, 50, 32, 67, 79, 85, 78, 84, 73, 70, 50, 50, 32, 83, 85, 77, 80, 82, 79, 68, 85, 67, 84, 50, 50, 32, 76, 69, 78, 49, 49, 32, 76, 69, 70, 84, 50, 50, 32, 82, 73, 71, 72, 84, 50, 50, 32, 77, 73, 68, 51, 51, 32, 85, 80, 80, 69, 82, 49, 49, 32, 76, 79, 87, 69, 82, 49, 49, 32, 84, 82, 73, 77, 49, 49, 32, 67, 79, 78, 67, 65, 84, 49, 57, 32, 82, 69, 80, 84, 50, 50, 32, 70, 73, 78, 68, 50, 50, 32, 83, 85, 66, 83, 84, 73, 84, 85, 84, 69, 51, 51, 32, 69, 88, 65, 67, 84, 50, 50, 32, 86, 65, 76, 85, 69, 49, 49, 32, 78, 79, 84, 49, 49, 32, 73, 83, 78, 85, 77, 66, 69, 82, 49, 49, 32, 73, 83, 84, 69, 88, 84, 49, 49, 32, 73, 83, 66, 76, 65, 78, 75, 49, 49, 32, 73, 83, 69, 82, 82, 79, 82, 49, 49, 32, 73, 83, 76, 79, 71, 73, 67, 65, 76, 49, 49, 32, 78, 65, 48, 48, 32, 73, 78, 68, 69, 88, 51, 51, 32, 77, 65, 84, 67, 72, 50, 50, 32, 86, 76, 79, 79, 75, 85, 80, 51, 51, 32, 82, 79, 87, 83, 49, 49, 32, 67, 79, 76, 85, 77, 78, 83, 49, 49]
def value_Num (x0 : Int) : Option (V) :=
 some (⟨1, x0, []⟩ : V)

def value_Bool (x0 : Bool) : Option (V) :=
 bindv ((fun s4 =>
  some (⟨3, s4, []⟩ : V)
  ) : (Int) → Option (V)) fun J4 =>
 if x0 = true then (
  J4 1
 ) else (
  J4 0
 )

def tree_Value (x0 : V) : Option (Nd) :=
 some ((⟨1, 0, x0, (⟨(⟨0, 0, 0⟩ : C), false, false⟩ : Rf), (⟨(⟨0, 0, 0⟩ : C), false, false⟩ : Rf), [], []⟩ : Nd))

def tree_Cell (x0 : Rf) : Option (Nd) :=
 some ((⟨2, 0, (⟨0, 0, []⟩ : V), x0, (⟨(⟨0, 0, 0⟩ : C), false, false⟩ : Rf), [], []⟩ : Nd))

def tree_Apply (x0 : Int) (x1 : List (Nd)) : Option (Nd) :=
 chk (([] : List (Nd)).length + x1.length ≤ 9223372036854775807 ∧ (([] : List (Nd)).length + x1.length) * 152 ≤ 140737488355328) <|
 bindv (([] : List (Nd)) ++ x1 : List (Nd)) fun z7_4 =>
 some ((⟨8, x0, (⟨0, 0, []⟩ : V), (⟨(⟨0, 0, 0⟩ : C), false, false⟩ : Rf), (⟨(⟨0, 0, 0⟩ : C), false, false⟩ : Rf), [], z7_4⟩ : Nd))

def tree_Unary (x0 : Int) (x1 : Nd) : Option (Nd) :=
 some ((⟨x0, 0, (⟨0, 0, []⟩ : V), (⟨(⟨0, 0, 0⟩ : C), false, false⟩ : Rf), (⟨(⟨0, 0, 0⟩ : C), false, false⟩ : Rf), [], [x1]⟩ : Nd))

def tree_Binary (x0 : Int) (x1 : Nd) (x2 : Nd) : Option (Nd) :=
 some ((⟨7, x0, (⟨0, 0, []⟩ : V), (⟨(⟨0, 0, 0⟩ : C), false, false⟩ : Rf), (⟨(⟨0, 0, 0⟩ : C), false, false⟩ : Rf), [], [x1, x2]⟩ : Nd))

def tree_Number (x0 : List UInt8) : Option (Int) :=
 bindv ((fun s2 =>
  some 0
  ) : (Unit) → Option (Int)) fun J2 =>
 chk (text0.length < 4294967281 ∧ (text0.all fun b => decide (b.toNat < 128)) = true) <|
 bindv (Lib.fields text0 : (List (List UInt8))) fun z5_5 =>
 bindv (fun (n8 : (Int) → Option (Int)) (s8 : Int) =>
  bindv (decide (s8 < (z5_5.length : Int)) : Bool) fun z8_10 =>
  if z8_10 = true then (
   chk ((0 : Int) ≤ s8 ∧ s8 < (z5_5.length : Int)) <|
   bindv (gel z5_5 s8 : List UInt8) fun z10_15 =>
   bindv (IntKind.wrap .i64 ((z10_15.length : Int) - 2) : Int) fun z15_16 =>
   chk ((0 : Int) ≤ z15_16 ∧ z15_16 ≤ (z10_15.length : Int)) <|
   bindv (cutS z10_15 0 z15_16 : List UInt8) fun z16_18 =>
   bindv (decide (z16_18 = x0) : Bool) fun z18_19 =>
   if z18_19 = true then (
    bindv (IntKind.wrap .i64 (s8 + 1) : Int) fun z20_21 =>
    some z20_21
   ) else (
    bindv (IntKind.wrap .i64 (s8 + 1) : Int) fun z21_22 =>
    n8 z21_22
   )
  ) else (
   J2 ()
  )
  ) fun B8 =>
 loopF B8 KK 0

def tree_Name (x0 : Int) : Option ((List UInt8)) :=
 chk (text0.length < 4294967281 ∧ (text0.all fun b => decide (b.toNat < 128)) = true) <|
 bindv (Lib.fields text0 : (List (List UInt8))) fun z4_3 =>
 bindv (decide (x0 < 1) : Bool) fun z6_6 =>
 bindv (decide ((z4_3.length : Int) < x0) : Bool) fun z11_7 =>
 bindv (z6_6 || z11_7 : Bool) fun z12_8 =>
 if z12_8 = true then (
  some []
 ) else (
  bindv (IntKind.wrap .i64 (x0 - 1) : Int) fun z15_10 =>
  chk ((0 : Int) ≤ z15_10 ∧ z15_10 < (z4_3.length : Int)) <|
  bindv (gel z4_3 z15_10 : List UInt8) fun z16_12 =>
  bindv (IntKind.wrap .i64 (x0 - 1) : Int) fun z20_13 =>
  chk ((0 : Int) ≤ z20_13 ∧ z20_13 < (z4_3.length : Int)) <|
  bindv (gel z4_3 z20_13 : List UInt8) fun z21_15 =>
  bindv (IntKind.wrap .i64 ((z21_15.length : Int) - 2) : Int) fun z24_16 =>
  chk ((0 : Int) ≤ z24_16 ∧ z24_16 ≤ (z16_12.length : Int)) <|
  bindv (cutS z16_12 0 z24_16 : List UInt8) fun z25_18 =>
  some z25_18
 )

def num_Whole (x0 : Int) : Option (Int × Bool) :=
 bindv (IntKind.wrap .i64 (Int.tdiv x0 1000000) : Int) fun z5_1 =>
 bindv (Int.tmod x0 1000000 : Int) fun z7_2 =>
 bindv (decide (z7_2 = 0) : Bool) fun z8_3 =>
 some (z5_1, z8_3)

def addr_Order (x0 : C) (x1 : C) : Option (C × C × Bool) :=
 bindv (!decide (x0.s = x1.s) : Bool) fun z11_6 =>
 if z11_6 = true then (
  some (x0, x1, false)
 ) else (
  bindv (min x0.c x1.c : Int) fun z20_8 =>
  bindv (min x0.r x1.r : Int) fun z25_9 =>
  bindv (max x0.c x1.c : Int) fun z33_10 =>
  bindv (max x0.r x1.r : Int) fun z38_11 =>
  some ((⟨x0.s, z20_8, z25_9⟩ : C), (⟨x0.s, z33_10, z38_11⟩ : C), true)
 )

def reckonerref13_Place_Name (x0 : List V) (x1 : List UInt8) : Option (Nd × Bool) :=
 bindv (decide (x1 = ([82, 65, 84, 69] : List UInt8)) : Bool) fun z13_4 =>
 if z13_4 = true then (
  some ((⟨2, 0, (⟨0, 0, []⟩ : V), (⟨(⟨0, 0, 0⟩ : C), false, false⟩ : Rf), (⟨(⟨0, 0, 0⟩ : C), false, false⟩ : Rf), [], []⟩ : Nd), true)
 ) else (
  bindv (decide (x1 = ([76, 73, 83, 84] : List UInt8)) : Bool) fun z16_7 =>
  if z16_7 = true then (
   some ((⟨3, 0, (⟨0, 0, []⟩ : V), (⟨(⟨0, 0, 0⟩ : C), false, false⟩ : Rf), (⟨(⟨0, 1, 1⟩ : C), false, false⟩ : Rf), [], []⟩ : Nd), true)
  ) else (
   some ((⟨0, 0, (⟨0, 0, []⟩ : V), (⟨(⟨0, 0, 0⟩ : C), false, false⟩ : Rf), (⟨(⟨0, 0, 0⟩ : C), false, false⟩ : Rf), [], []⟩ : Nd), false)
  )
 )

def eval_Area (x0 : List V) (x1 : Nd) : Option (C × C × Bool) :=
 bindv ((fun s5 =>
  bindv (decide (s5.1 = 3) : Bool) fun z24_9 =>
  if z24_9 = true then (
   obind (addr_Order (⟨s5.2.2.2.2.2.1, s5.2.2.2.2.2.2.1, s5.2.2.2.2.2.2.2.1⟩ : C) (⟨s5.2.2.2.2.2.2.2.2.2.2.1, s5.2.2.2.2.2.2.2.2.2.2.2.1, s5.2.2.2.2.2.2.2.2.2.2.2.2.1⟩ : C)) fun y31_11 =>
   some (y31_11.1, y31_11.2.1, y31_11.2.2)
  ) else (
   bindv (decide (s5.1 = 2) : Bool) fun z36_12 =>
   if z36_12 = true then (
    some ((⟨s5.2.2.2.2.2.1, s5.2.2.2.2.2.2.1, s5.2.2.2.2.2.2.2.1⟩ : C), (⟨s5.2.2.2.2.2.1, s5.2.2.2.2.2.2.1, s5.2.2.2.2.2.2.2.1⟩ : C), true)
   ) else (
    some ((⟨0, 0, 0⟩ : C), (⟨0, 0, 0⟩ : C), false)
   )
  )
  ) : (Int × Int × Int × Int × (List UInt8) × Int × Int × Int × Bool × Bool × Int × Int × Int × Bool × Bool × (List UInt8) × (List (Nd))) → Option (C × C × Bool)) fun J5 =>
 bindv (decide (x1.k = 4) : Bool) fun z11_14 =>
 if z11_14 = true then (
  obind (reckonerref13_Place_Name x0 x1.nm) fun y16_16 =>
  if y16_16.2 = true then (
   J5 (y16_16.1.k, y16_16.1.op, y16_16.1.v.k, y16_16.1.v.n, y16_16.1.v.s, y16_16.1.a.c.s, y16_16.1.a.c.c, y16_16.1.a.c.r, y16_16.1.a.ac, y16_16.1.a.ar, y16_16.1.b.c.s, y16_16.1.b.c.c, y16_16.1.b.c.r, y16_16.1.b.ac, y16_16.1.b.ar, y16_16.1.nm, y16_16.1.l)
  ) else (
   J5 (x1.k, x1.op, x1.v.k, x1.v.n, x1.v.s, x1.a.c.s, x1.a.c.c, x1.a.c.r, x1.a.ac, x1.a.ar, x1.b.c.s, x1.b.c.c, x1.b.c.r, x1.b.ac, x1.b.ar, x1.nm, x1.l)
  )
 ) else (
  J5 (x1.k, x1.op, x1.v.k, x1.v.n, x1.v.s, x1.a.c.s, x1.a.c.c, x1.a.c.r, x1.a.ac, x1.a.ar, x1.b.c.s, x1.b.c.c, x1.b.c.r, x1.b.ac, x1.b.ar, x1.nm, x1.l)
 )
end Go.Sp
