/- Joined texts. -/
import Derived.Test.YtcecjdnkcbfhlaaGreatDoorZL1
import Derived.Test.YtcecjdnkcbfhlaaGreatDoorZM0
import Derived.Test.YtcecjdnkcbfhlaaGreatDoorZS0
set_option linter.unusedSimpArgs false
set_option linter.unusedVariables false
set_option linter.unusedSectionVars false
section
namespace Go.Sp
open Go.Stp Go.ValP
def rowL (a b : C) (i : Nat) : List C := (List.range (b.c - a.c + 1).toNat).map fun j : Nat => ⟨a.s, a.c + j, a.r + i⟩
def upL (a b : C) (i j : Nat) : List C := ((List.range i).flatMap (rowL a b)) ++ (List.range j).map fun j : Nat => (⟨a.s, a.c + j, a.r + i⟩ : C)
def cellsL (a b : C) : List C := (List.range (b.r - a.r + 1).toNat).flatMap (rowL a b)
def addr_Cells (a b : C) : Option (List C) :=
 obind (addr_Order a b) fun o =>
 if o.2.2 = true then
  chk ((-9223372036854775808 ≤ o.1.c ∧ o.2.1.c < 9223372036854775807) ∧ -9223372036854775808 ≤ o.1.r ∧ o.2.1.r < 9223372036854775807) <|
  some (cellsL o.1 o.2.1)
 else some []
theorem upL_succ {a b : C} {i j : Nat} : upL a b i j ++ [⟨a.s, a.c + j, a.r + i⟩] = upL a b i (j + 1) := by
 unfold upL
 rw [List.append_assoc, List.range_succ, List.map_append]
 rfl
theorem upL_row {a b : C} {i : Nat} : upL a b i (b.c - a.c + 1).toNat = upL a b (i + 1) 0 := by
 unfold upL
 rw [List.range_succ, List.flatMap_append]
 simp [rowL]
theorem upL_all {a b : C} : upL a b (b.r - a.r + 1).toNat 0 = cellsL a b := by simp [upL, cellsL]
theorem upL_prefix {a b : C} {i j : Nat} (hi : i < (b.r - a.r + 1).toNat) (hj : j ≤ (b.c - a.c + 1).toNat) : upL a b i j <+: cellsL a b := by
 unfold upL cellsL
 obtain ⟨m, hm⟩ : ∃ m, (b.r - a.r + 1).toNat = i + (1 + m) := ⟨(b.r - a.r + 1).toNat - i - 1, by omega⟩
 obtain ⟨k, hk⟩ : ∃ k, (b.c - a.c + 1).toNat = j + k := ⟨(b.c - a.c + 1).toNat - j, by omega⟩
 rw [hm, List.range_add, List.flatMap_append, List.range_add, List.map_append, List.flatMap_append]
 have e : List.flatMap (rowL a b) (List.map (fun x => i + x) (List.range 1)) = rowL a b i := by simp
 rw [e]
 refine List.prefix_append_right_inj _ |>.2 ?_
 unfold rowL
 rw [hk, List.range_add, List.map_append, List.append_assoc]
 exact List.prefix_append _ _
end Go.Sp
end
section
namespace Go.Sp
open Go.Stp Go.ValP
def eval_run_truth (rec : Rn → Nd → (List (C × Bool)) → Option ((Gt) × List (C × Bool))) (x0 : Rn) (x1 : Nd) (m0 : List (C × Bool)) : Option ((Gt) × List (C × Bool)) :=
 obind (rec x0 x1 m0) fun y3 =>
 bindv (decide (y3.1.v.k = 4) : Bool) fun z7 =>
 if z7 = true then (
  some (y3.1, y3.2)
 ) else (
  obind (value_ToBool y3.1.v) fun y9 =>
  obind (eval_run_made x0 y9) fun y10 =>
  some (y10, y3.2)
 )
def eval_run_lazy (rec : Rn → Nd → (List (C × Bool)) → Option ((Gt) × List (C × Bool))) (x0 : Rn) (x1 : Nd) (m0 : List (C × Bool)) : Option ((Gt) × List (C × Bool)) :=
 bindv ((fun s4 =>
  chk ((0 : Int) ≤ 0 ∧ 0 < (x1.l.length : Int)) <|
  bindv (gel x1.l 0 : Nd) fun z6 =>
  obind (eval_run_truth rec x0 z6 s4.1) fun y8 =>
  bindv (decide (y8.1.v.k = 4) : Bool) fun z12 =>
  if z12 = true then (
   some (y8.1, y8.2)
  ) else (
   bindv (decide (y8.1.v.n = 1) : Bool) fun z14 =>
   if z14 = true then (
    chk ((0 : Int) ≤ 1 ∧ 1 < (x1.l.length : Int)) <|
    bindv (gel x1.l 1 : Nd) fun z17 =>
    obind (rec x0 z17 y8.2) fun y19 =>
    some (y19.1, y19.2)
   ) else (
    bindv (decide ((x1.l.length : Int) = 3) : Bool) fun z21 =>
    if z21 = true then (
     chk ((0 : Int) ≤ 2 ∧ 2 < (x1.l.length : Int)) <|
     bindv (gel x1.l 2 : Nd) fun z24 =>
     obind (rec x0 z24 y8.2) fun y26 =>
     some (y26.1, y26.2)
    ) else (
     obind (value_Bool false) fun y28 =>
     obind (eval_run_made x0 y28) fun y29 =>
     some (y29, y8.2)
    )
   )
  )
  ) : ((List (C × Bool)) × Int × Int × (List UInt8) × Int × Int × Int) → Option ((Gt) × List (C × Bool))) fun J4 =>
 bindv (decide (x1.op = 2) : Bool) fun z31 =>
 if z31 = true then (
  chk ((0 : Int) ≤ 0 ∧ 0 < (x1.l.length : Int)) <|
  bindv (gel x1.l 0 : Nd) fun z34 =>
  obind (rec x0 z34 m0) fun y36 =>
  bindv (!decide (y36.1.v.k = 4) : Bool) fun z40 =>
  if z40 = true then (
   some (y36.1, y36.2)
  ) else (
   chk ((0 : Int) ≤ 1 ∧ 1 < (x1.l.length : Int)) <|
   bindv (gel x1.l 1 : Nd) fun z43 =>
   obind (rec x0 z43 y36.2) fun y45 =>
   some (y45.1, y45.2)
  )
 ) else (
  bindv ((fun s48 =>
   if s48 = true then (
    bindv ((fun s51 =>
     bindv (decide (x1.op = 3) : Bool) fun z52 =>
     obind (value_Bool z52) fun y53 =>
     obind (eval_run_made x0 y53) fun y54 =>
     some (y54, s51.1)
     ) : ((List (C × Bool)) × Int × Int × (List UInt8) × Int × Int × Int) → Option ((Gt) × List (C × Bool))) fun J51 =>
    bindv (fun (n56 : (Int × (List (C × Bool)) × Int × Int × (List UInt8) × Int × Int × Int) → Option ((Gt) × List (C × Bool))) (s56 : Int × (List (C × Bool)) × Int × Int × (List UInt8) × Int × Int × Int) =>
     bindv (decide (s56.1 < (x1.l.length : Int)) : Bool) fun z58 =>
     if z58 = true then (
      chk ((0 : Int) ≤ s56.1 ∧ s56.1 < (x1.l.length : Int)) <|
      bindv (gel x1.l s56.1 : Nd) fun z63 =>
      obind (eval_run_truth rec x0 z63 s56.2.1) fun y66 =>
      bindv (decide (y66.1.v.k = 4) : Bool) fun z69 =>
      bindv (decide (y66.1.v.n = 1) : Bool) fun z70 =>
      bindv (decide (x1.op = 4) : Bool) fun z71 =>
      bindv (z70 == z71 : Bool) fun z72 =>
      bindv (z69 || z72 : Bool) fun z73 =>
      if z73 = true then (
       some (y66.1, y66.2)
      ) else (
       bindv (IntKind.wrap .i64 (s56.1 + 1) : Int) fun z75 =>
       n56 (z75, y66.2, s56.2.2.1, s56.2.2.2.1, s56.2.2.2.2.1, s56.2.2.2.2.2.1, s56.2.2.2.2.2.2.1, s56.2.2.2.2.2.2.2)
      )
     ) else (
      J51 (s56.2.1, s56.2.2.1, s56.2.2.2.1, s56.2.2.2.2.1, s56.2.2.2.2.2.1, s56.2.2.2.2.2.2.1, s56.2.2.2.2.2.2.2)
     )
     ) fun B56 =>
    loopF B56 KK (0, m0, 0, 0, [], 0, 0, 0)
   ) else (
    bindv (decide (x1.op = 5) : Bool) fun z76 =>
    if z76 = true then (
     chk ((0 : Int) ≤ 0 ∧ 0 < (x1.l.length : Int)) <|
     bindv (gel x1.l 0 : Nd) fun z79 =>
     obind (rec x0 z79 m0) fun y81 =>
     bindv (decide (y81.1.v.k = 4) : Bool) fun z85 =>
     if z85 = true then (
      some (y81.1, y81.2)
     ) else (
      obind (value_ToNum y81.1.v) fun y87 =>
      bindv (decide (y87.k = 4) : Bool) fun z90 =>
      if z90 = true then (
       obind (eval_run_made x0 y87) fun y92 =>
       some (y92, y81.2)
      ) else (
       bindv (IntKind.wrap .i64 (Int.tdiv y87.n 1000000) : Int) fun z94 =>
       bindv (decide (1 ≤ z94) : Bool) fun z95 =>
       bindv (decide (z94 < (x1.l.length : Int)) : Bool) fun z96 =>
       bindv (z95 && z96 : Bool) fun z97 =>
       if z97 = true then (
        chk ((0 : Int) ≤ z94 ∧ z94 < (x1.l.length : Int)) <|
        bindv (gel x1.l z94 : Nd) fun z100 =>
        obind (rec x0 z100 y81.2) fun y102 =>
        some (y102.1, y102.2)
       ) else (
        obind (value_Fail (2 : Int)) fun y104 =>
        obind (eval_run_made x0 y104) fun y105 =>
        some (y105, y81.2)
       )
      )
     )
    ) else (
     J4 (m0, 0, 0, [], 0, 0, 0)
    )
   )
   ) : (Bool) → Option ((Gt) × List (C × Bool))) fun J48 =>
  bindv (decide (x1.op = 3) : Bool) fun z106 =>
  if z106 = true then (
   J48 z106
  ) else (
   bindv (decide (x1.op = 4) : Bool) fun z108 =>
   J48 z108
  )
 )
def eval_run_strict (rec : Rn → Nd → (List (C × Bool)) → Option ((Gt) × List (C × Bool))) (x0 : Rn) (x1 : Nd) (m0 : List (C × Bool)) : Option ((Gt) × List (C × Bool)) :=
 bindv ((fun s5 =>
  obind (funcs_Apply x1.op s5.2.2.2.2.2.2.2) fun y8 =>
  obind (eval_run_made x0 y8) fun y9 =>
  some (y9, s5.1)
  ) : ((List (C × Bool)) × Int × Int × (List UInt8) × Int × Int × Int × (List (Arg))) → Option ((Gt) × List (C × Bool))) fun J5 =>
 bindv (fun (n11 : (Int × (List (C × Bool)) × Int × Int × (List UInt8) × Int × Int × Int × (List (Arg))) → Option ((Gt) × List (C × Bool))) (s11 : Int × (List (C × Bool)) × Int × Int × (List UInt8) × Int × Int × Int × (List (Arg))) =>
  bindv (decide (s11.1 < (x1.l.length : Int)) : Bool) fun z15 =>
  if z15 = true then (
   chk ((0 : Int) ≤ s11.1 ∧ s11.1 < (x1.l.length : Int)) <|
   bindv (gel x1.l s11.1 : Nd) fun z20 =>
   obind (eval_Area x0.p z20) fun y25 =>
   bindv ((fun s29 =>
    bindv ((fun s33 =>
     chk (s11.2.2.2.2.2.2.2.2.length + [(⟨s29.2.1, s29.2.2.1, s33.2.2.2.2.2.2⟩ : Arg)].length ≤ 9223372036854775807 ∧ (s11.2.2.2.2.2.2.2.2.length + [(⟨s29.2.1, s29.2.2.1, s33.2.2.2.2.2.2⟩ : Arg)].length) * 40 ≤ 140737488355328) <|
     bindv (s11.2.2.2.2.2.2.2.2 ++ [(⟨s29.2.1, s29.2.2.1, s33.2.2.2.2.2.2⟩ : Arg)] : List (Arg)) fun z40 =>
     bindv (IntKind.wrap .i64 (s11.1 + 1) : Int) fun z41 =>
     n11 (z41, s29.1, s33.1, s33.2.1, s33.2.2.1, s33.2.2.2.1, s33.2.2.2.2.1, s33.2.2.2.2.2.1, z40)
     ) : (Int × Int × (List UInt8) × Int × Int × Int × (List (V))) → Option ((Gt) × List (C × Bool))) fun J33 =>
    bindv (fun (n43 : (Int × Int × Int × (List UInt8) × Int × Int × Int × (List (V))) → Option ((Gt) × List (C × Bool))) (s43 : Int × Int × Int × (List UInt8) × Int × Int × Int × (List (V))) =>
     bindv (decide (s43.1 < (s29.2.2.2.length : Int)) : Bool) fun z47 =>
     if z47 = true then (
      chk ((0 : Int) ≤ s43.1 ∧ s43.1 < (s29.2.2.2.length : Int)) <|
      bindv (gel s29.2.2.2 s43.1 : Gt) fun z52 =>
      bindv (decide (z52.v.k = 4) : Bool) fun z55 =>
      obind (if z55 = true then funcs_Bears x1.op else some default) fun y56 =>
      bindv (!y56 : Bool) fun z57 =>
      bindv (z55 && z57 : Bool) fun z58 =>
      if z58 = true then (
       some (z52, s29.1)
      ) else (
       chk (s43.2.2.2.2.2.2.2.length + [z52.v].length ≤ 9223372036854775807 ∧ (s43.2.2.2.2.2.2.2.length + [z52.v].length) * 32 ≤ 140737488355328) <|
       bindv (s43.2.2.2.2.2.2.2 ++ [z52.v] : List (V)) fun z63 =>
       bindv (IntKind.wrap .i64 (s43.1 + 1) : Int) fun z64 =>
       n43 (z64, s43.2.1, s43.2.2.1, s43.2.2.2.1, s43.2.2.2.2.1, s43.2.2.2.2.2.1, s43.2.2.2.2.2.2.1, z63)
      )
     ) else (
      J33 (s43.2.1, s43.2.2.1, s43.2.2.2.1, s43.2.2.2.2.1, s43.2.2.2.2.2.1, s43.2.2.2.2.2.2.1, s43.2.2.2.2.2.2.2)
     )
     ) fun B43 =>
    loopF B43 KK (0, s11.2.2.1, s11.2.2.2.1, s11.2.2.2.2.1, s11.2.2.2.2.2.1, s11.2.2.2.2.2.2.1, s11.2.2.2.2.2.2.2.1, ([] : List (V)))
    ) : ((List (C × Bool)) × Bool × Int × (List (Gt))) → Option ((Gt) × List (C × Bool))) fun J29 =>
   if y25.2.2 = true then (
    bindv (IntKind.wrap .i64 (y25.2.1.c - y25.1.c) : Int) fun z66 =>
    bindv (IntKind.wrap .i64 (z66 + 1) : Int) fun z67 =>
    obind (addr_Cells y25.1 y25.2.1) fun y68 =>
    bindv (fun (s70 : (List (C × Bool)) × (List (Gt))) (x : C) =>
     obind (eval_run_cell x0 x s70.1) fun y73 =>
     chk (s70.2.length + [y73.1].length ≤ 9223372036854775807 ∧ (s70.2.length + [y73.1].length) * 56 ≤ 140737488355328) <|
     bindv (s70.2 ++ [y73.1] : List (Gt)) fun z77 =>
     some (y73.2, z77)
     ) fun B70 =>
    obind (foldO B70 (s11.2.1, ([] : List (Gt))) y68) fun f70 =>
    J29 (f70.1, true, z67, f70.2)
   ) else (
    obind (rec x0 z20 s11.2.1) fun y79 =>
    chk (([] : List (Gt)).length + [y79.1].length ≤ 9223372036854775807 ∧ (([] : List (Gt)).length + [y79.1].length) * 56 ≤ 140737488355328) <|
    bindv (([] : List (Gt)) ++ [y79.1] : List (Gt)) fun z83 =>
    J29 (y79.2, false, 1, z83)
   )
  ) else (
   J5 (s11.2.1, s11.2.2.1, s11.2.2.2.1, s11.2.2.2.2.1, s11.2.2.2.2.2.1, s11.2.2.2.2.2.2.1, s11.2.2.2.2.2.2.2.1, s11.2.2.2.2.2.2.2.2)
  )
  ) fun B11 =>
 loopF B11 KK (0, m0, 0, 0, [], 0, 0, 0, ([] : List (Arg)))
def eval_run_eval_B (rec : Rn → Nd → (List (C × Bool)) → Option ((Gt) × List (C × Bool))) (x0 : Rn) (x1 : Nd) (m0 : List (C × Bool)) : Option ((Gt) × List (C × Bool)) :=
 bindv (decide (x1.k = 1) : Bool) fun z5 =>
 if z5 = true then (
  obind (eval_run_made x0 x1.v) fun y7 =>
  some (y7, m0)
 ) else (
  bindv ((fun s9 =>
   if s9 = true then (
    obind (eval_Area x0.p x1) fun y11 =>
    bindv (!y11.2.2 : Bool) fun z15 =>
    if z15 = true then (
     obind (value_Fail (4 : Int)) fun y17 =>
     obind (eval_run_made x0 y17) fun y18 =>
     some (y18, m0)
    ) else (
     bindv (!((decide (y11.1.s = y11.2.1.s) && (decide (y11.1.c = y11.2.1.c) && decide (y11.1.r = y11.2.1.r)))) : Bool) fun z20 =>
     if z20 = true then (
      obind (value_Fail (2 : Int)) fun y22 =>
      obind (eval_run_made x0 y22) fun y23 =>
      some (y23, m0)
     ) else (
      obind (eval_run_cell x0 y11.1 m0) fun y24 =>
      some (y24.1, y24.2)
     )
    )
   ) else (
    bindv ((fun s27 =>
     if s27 = true then (
      chk ((0 : Int) ≤ 0 ∧ 0 < (x1.l.length : Int)) <|
      bindv (gel x1.l 0 : Nd) fun z30 =>
      obind (rec x0 z30 m0) fun y32 =>
      bindv (decide (y32.1.v.k = 4) : Bool) fun z36 =>
      if z36 = true then (
       some (y32.1, y32.2)
      ) else (
       obind (funcs_Unary x1.k y32.1.v) fun y38 =>
       obind (eval_run_made x0 y38) fun y39 =>
       some (y39, y32.2)
      )
     ) else (
      bindv (decide (x1.k = 7) : Bool) fun z40 =>
      if z40 = true then (
       chk ((0 : Int) ≤ 0 ∧ 0 < (x1.l.length : Int)) <|
       bindv (gel x1.l 0 : Nd) fun z43 =>
       obind (rec x0 z43 m0) fun y45 =>
       bindv (decide (y45.1.v.k = 4) : Bool) fun z49 =>
       if z49 = true then (
        some (y45.1, y45.2)
       ) else (
        chk ((0 : Int) ≤ 1 ∧ 1 < (x1.l.length : Int)) <|
        bindv (gel x1.l 1 : Nd) fun z52 =>
        obind (rec x0 z52 y45.2) fun y54 =>
        bindv (decide (y54.1.v.k = 4) : Bool) fun z58 =>
        if z58 = true then (
         some (y54.1, y54.2)
        ) else (
         obind (funcs_Binary x1.op y45.1.v y54.1.v) fun y60 =>
         obind (eval_run_made x0 y60) fun y61 =>
         some (y61, y54.2)
        )
       )
      ) else (
       bindv (decide (x1.op ≤ 5) : Bool) fun z63 =>
       if z63 = true then (
        obind (eval_run_lazy rec x0 x1 m0) fun y65 =>
        some (y65.1, y65.2)
       ) else (
        obind (eval_run_strict rec x0 x1 m0) fun y67 =>
        some (y67.1, y67.2)
       )
      )
     )
     ) : (Bool) → Option ((Gt) × List (C × Bool))) fun J27 =>
    bindv (decide (x1.k = 5) : Bool) fun z69 =>
    if z69 = true then (
     J27 z69
    ) else (
     bindv (decide (x1.k = 6) : Bool) fun z71 =>
     J27 z71
    )
   )
   ) : (Bool) → Option ((Gt) × List (C × Bool))) fun J9 =>
  bindv (decide (x1.k = 2) : Bool) fun z72 =>
  if z72 = true then (
   J9 z72
  ) else (
   bindv (decide (x1.k = 3) : Bool) fun z74 =>
   if z74 = true then (
    J9 z74
   ) else (
    bindv (decide (x1.k = 4) : Bool) fun z76 =>
    J9 z76
   )
  )
 )
def eval_run_eval : Nat → Rn → Nd → (List (C × Bool)) → Option ((Gt) × List (C × Bool))
 | 0, _, _, _ => none
 | k + 1, x0, x1, m0 => eval_run_eval_B (eval_run_eval k) x0 x1 m0
end Go.Sp
end
section
namespace Go.Sp
open Go.Stp Go.ValP
def eval_Eval (x0 : Nd) (x1 : C) (x2 : List V) : Option (Rs) :=
 obind (eval_run_eval KK (⟨x2, x1⟩ : Rn) x0 ([] : List (C × Bool))) fun y7 =>
 bindv ((fun s12 =>
  chk (y7.2.length < 4611686018427387904 ∧ y7.2.length * 24 ≤ 140737488355328) <|
  some (⟨y7.1.v, (⟨s12.1, s12.2.1, s12.2.2⟩ : C), (srtK y7.2)⟩ : Rs)
  ) : (Int × Int × Int) → Option (Rs)) fun J12 =>
 bindv (decide (y7.1.v.k = 4) : Bool) fun z20 =>
 if z20 = true then (
  J12 (y7.1.c.s, y7.1.c.c, y7.1.c.r)
 ) else (
  J12 (0, 0, 0)
 )
end Go.Sp
end
section
namespace Go.Sp
open Go.Stp Go.ValP
def reckonerlaw13_fit  : Option (Bool) :=
 obind (value_Num (5 : Int)) fun y2 =>
 bindv (zeroPl.set (Int.toNat (64 * 0 + 0)) y2 : List V) fun zp3 =>
 obind (value_Bool true) fun y6 =>
 obind (tree_Value y6) fun y7 =>
 obind (tree_Cell (⟨(⟨0, 0, 0⟩ : C), false, false⟩ : Rf)) fun y9 =>
 obind (tree_Cell (⟨(⟨0, 1, 0⟩ : C), false, false⟩ : Rf)) fun y11 =>
 obind (tree_Apply (1 : Int) [y7, y9, y11]) fun y13 =>
 obind (eval_Eval y13 (⟨0, 0, 0⟩ : C) zp3) fun y15 =>
 obind (value_Num (5 : Int)) fun y18 =>
 bindv ((decide (y15.v.k = y18.k) && (decide (y15.v.n = y18.n) && decide (y15.v.s = y18.s))) : Bool) fun z19 =>
 bindv (decide ((y15.l.length : Int) = 1) : Bool) fun z20 =>
 bindv (z19 && z20 : Bool) fun z21 =>
 chk (z21 = true → (0 : Int) ≤ 0 ∧ 0 < (y15.l.length : Int)) <|
 bindv (gel y15.l 0 : C) fun z23 =>
 bindv ((decide (z23.s = 0) && (decide (z23.c = 0) && decide (z23.r = 0))) : Bool) fun z24 =>
 bindv (z21 && z24 : Bool) fun z25 =>
 some z25
end Go.Sp
end
section
namespace Go.Sp
open Go.Stp Go.ValP
def reckonerlaw05_ref (x0 : Int) (x1 : Int) : Option (Rf) :=
 bindv (bits .and .i64 x0 1 : Int) fun z2 =>
 bindv (decide (z2 = 1) : Bool) fun z3 =>
 bindv (bits .and .i64 x0 2 : Int) fun z4 =>
 bindv (decide (z4 = 2) : Bool) fun z5 =>
 bindv (decide (x1 = 4) : Bool) fun z6 =>
 bindv (z5 && z6 : Bool) fun z7 =>
 bindv (bits .and .i64 x0 3 : Int) fun z9 =>
 bindv (IntKind.wrap .i64 (Int.tdiv x0 4) : Int) fun z10 =>
 bindv (bits .and .i64 z10 3 : Int) fun z11 =>
 bindv ((fun s13 =>
  some (⟨(⟨s13, z9, z11⟩ : C), z3, z7⟩ : Rf)
  ) : (Int) → Option (Rf)) fun J13 =>
 bindv (decide (x1 = 4) : Bool) fun z14 =>
 bindv (decide (11 < x0) : Bool) fun z15 =>
 bindv (z14 && z15 : Bool) fun z16 =>
 if z16 = true then (
  J13 1
 ) else (
  J13 0
 )
def reckonerlaw05_Seed_Formula_B (rec : (List Int) → Int → Option ((Nd) × (List Int))) (x0 : List Int) (x1 : Int) : Option ((Nd) × (List Int)) :=
 bindv ((fun s3 =>
  bindv (Int.tmod s3.1 16 : Int) fun z5 =>
  bindv ((fun s7 =>
   bindv (decide (s7 < 2) : Bool) fun z9 =>
   if z9 = true then (
    bindv (IntKind.wrap .i64 (Int.tdiv s3.1 16) : Int) fun z11 =>
    bindv (IntKind.wrap .i64 (z11 * 500000) : Int) fun z12 =>
    obind (value_Num z12) fun y13 =>
    obind (tree_Value y13) fun y14 =>
    some (y14, s3.2)
   ) else (
    bindv (decide (s7 = 2) : Bool) fun z16 =>
    if z16 = true then (
     obind (value_Text ([97, 34, 98] : List UInt8)) fun y18 =>
     obind (tree_Value y18) fun y19 =>
     bindv (bits .and .i64 s3.1 16 : Int) fun z21 =>
     bindv (decide (z21 = 0) : Bool) fun z22 =>
     obind (value_Bool z22) fun y23 =>
     obind (tree_Value y23) fun y24 =>
     bindv (IntKind.wrap .i64 (Int.tdiv s3.1 16) : Int) fun z26 =>
     bindv (Int.tmod z26 7 : Int) fun z27 =>
     bindv (IntKind.wrap .i64 (z27 + 1) : Int) fun z28 =>
     obind (value_Fail z28) fun y29 =>
     obind (tree_Value y29) fun y30 =>
     obind (tree_Value (⟨0, 0, []⟩ : V)) fun y32 =>
     bindv (IntKind.wrap .i64 (Int.tdiv s3.1 64) : Int) fun z35 =>
     chk ((0 : Int) ≤ z35 ∧ z35 < ([y19, y24, y30, y32].length : Int)) <|
     bindv (gel [y19, y24, y30, y32] z35 : Nd) fun z37 =>
     some (z37, s3.2)
    ) else (
     bindv (decide (s7 < 5) : Bool) fun z39 =>
     if z39 = true then (
      bindv (IntKind.wrap .i64 (Int.tdiv s3.1 16) : Int) fun z41 =>
      obind (reckonerlaw05_ref z41 s7) fun y42 =>
      obind (tree_Cell y42) fun y43 =>
      some (y43, s3.2)
     ) else (
      bindv (decide (s7 = 5) : Bool) fun z45 =>
      if z45 = true then (
       bindv (IntKind.wrap .i64 (Int.tdiv s3.1 16) : Int) fun z47 =>
       obind (reckonerlaw05_ref z47 (3 : Int)) fun y48 =>
       bindv (bits .and .i64 s3.1 1 : Int) fun z51 =>
       bindv (IntKind.wrap .i64 (y48.c.c + z51) : Int) fun z52 =>
       bindv (IntKind.wrap .i64 (Int.tdiv s3.1 32) : Int) fun z53 =>
       bindv (Int.tmod z53 3 : Int) fun z54 =>
       bindv (IntKind.wrap .i64 (y48.c.r + z54) : Int) fun z55 =>
       obind (tree_Span y48 (⟨(⟨y48.c.s, z52, z55⟩ : C), y48.ac, y48.ar⟩ : Rf)) fun y56 =>
       some (y56, s3.2)
      ) else (
       bindv (decide (s7 = 6) : Bool) fun z58 =>
       if z58 = true then (
        bindv (IntKind.wrap .i64 (x1 - 1) : Int) fun z60 =>
        obind (rec s3.2 z60) fun y61 =>
        obind (tree_Unary (5 : Int) y61.1) fun y63 =>
        some (y63, y61.2)
       ) else (
        bindv (decide (s7 = 7) : Bool) fun z65 =>
        if z65 = true then (
         bindv (IntKind.wrap .i64 (x1 - 1) : Int) fun z67 =>
         obind (rec s3.2 z67) fun y68 =>
         obind (tree_Unary (6 : Int) y68.1) fun y70 =>
         some (y70, y68.2)
        ) else (
         bindv (decide (s7 < 12) : Bool) fun z72 =>
         if z72 = true then (
          bindv (IntKind.wrap .i64 (x1 - 1) : Int) fun z74 =>
          obind (rec s3.2 z74) fun y75 =>
          bindv (Int.tmod s3.1 11 : Int) fun z78 =>
          bindv (IntKind.wrap .i64 (z78 + 1) : Int) fun z79 =>
          bindv (IntKind.wrap .i64 (x1 - 1) : Int) fun z80 =>
          obind (rec y75.2 z80) fun y81 =>
          obind (tree_Binary z79 y75.1 y81.1) fun y83 =>
          some (y83, y81.2)
         ) else (
          bindv (IntKind.wrap .i64 (Int.tdiv s3.1 4) : Int) fun z85 =>
          bindv (Int.tmod z85 54 : Int) fun z86 =>
          bindv (IntKind.wrap .i64 (z86 + 1) : Int) fun z87 =>
          bindv ((fun s89 =>
           bindv ((fun s91 =>
            obind (tree_Apply s89 s91.2) fun y95 =>
            some (y95, s91.1)
            ) : ((List (Int)) × (List (Nd))) → Option ((Nd) × (List Int))) fun J91 =>
           bindv (fun (n97 : ((List (Int)) × (List (Nd))) → Option ((Nd) × (List Int))) (s97 : (List (Int)) × (List (Nd))) =>
            bindv (decide ((s97.2.length : Int) < 9) : Bool) fun z102 =>
            obind (if z102 = true then tree_Fits s89 (s97.2.length : Int) else some default) fun y103 =>
            bindv (!y103 : Bool) fun z104 =>
            bindv (z102 && z104 : Bool) fun z105 =>
            if z105 = true then (
             bindv (IntKind.wrap .i64 (x1 - 1) : Int) fun z108 =>
             obind (rec s97.1 z108) fun y109 =>
             chk (s97.2.length + [y109.1].length ≤ 9223372036854775807 ∧ (s97.2.length + [y109.1].length) * 152 ≤ 140737488355328) <|
             bindv (s97.2 ++ [y109.1] : List (Nd)) fun z114 =>
             n97 (y109.2, z114)
            ) else (
             J91 (s97.1, s97.2)
            )
            ) fun B97 =>
           loopF B97 KK (s3.2, ([] : List (Nd)))
           ) : (Int) → Option ((Nd) × (List Int))) fun J89 =>
          bindv (decide (0 < (s3.2.length : Int)) : Bool) fun z115 =>
          if z115 = true then (
           chk ((0 : Int) ≤ 0 ∧ 0 < (s3.2.length : Int)) <|
           bindv (gel s3.2 0 : Int) fun z118 =>
           bindv (IntKind.wrap .i64 z118 : Int) fun z119 =>
           bindv (Int.tmod z119 54 : Int) fun z120 =>
           bindv (IntKind.wrap .i64 (z120 + 1) : Int) fun z121 =>
           J89 z121
          ) else (
           J89 z87
          )
         )
        )
       )
      )
     )
    )
   )
   ) : (Int) → Option ((Nd) × (List Int))) fun J7 =>
  bindv (decide (x1 ≤ 0) : Bool) fun z122 =>
  bindv (decide ((s3.2.length : Int) = 0) : Bool) fun z123 =>
  bindv (z122 || z123 : Bool) fun z124 =>
  if z124 = true then (
   bindv (Int.tmod s3.1 6 : Int) fun z126 =>
   J7 z126
  ) else (
   J7 z5
  )
  ) : (Int × (List (Int))) → Option ((Nd) × (List Int))) fun J3 =>
 bindv (decide (0 < (x0.length : Int)) : Bool) fun z127 =>
 if z127 = true then (
  chk ((0 : Int) ≤ 0 ∧ 0 < (x0.length : Int)) <|
  bindv (gel x0 0 : Int) fun z130 =>
  bindv (IntKind.wrap .i64 z130 : Int) fun z131 =>
  chk ((0 : Int) ≤ (1 : Int) ∧ (1 : Int) ≤ (x0.length : Int) ∧ (x0.length : Int) ≤ (x0.length : Int)) <|
  bindv (cutL x0 (1 : Int) (x0.length : Int) : List (Int)) fun z133 =>
  J3 (z131, z133)
 ) else (
  J3 (0, x0)
 )
def reckonerlaw05_Seed_Formula : Nat → (List Int) → Int → Option ((Nd) × (List Int))
 | 0, _, _ => none
 | k + 1, x0, x1 => reckonerlaw05_Seed_Formula_B (reckonerlaw05_Seed_Formula k) x0 x1
end Go.Sp
end
section
namespace Go.Sp
open Go.Stp Go.ValP
def reckonerlaw13_asked (x0 : Rs) (x1 : C) : Option (Bool) :=
 bindv ((fun s4 =>
  some false
  ) : (Unit) → Option (Bool)) fun J4 =>
 bindv (fun (n6 : (Int) → Option (Bool)) (s6 : Int) =>
  bindv (decide (s6 < (x0.l.length : Int)) : Bool) fun z8 =>
  if z8 = true then (
   chk ((0 : Int) ≤ s6 ∧ s6 < (x0.l.length : Int)) <|
   bindv (gel x0.l s6 : C) fun z13 =>
   bindv ((decide (z13.s = x1.s) && (decide (z13.c = x1.c) && decide (z13.r = x1.r))) : Bool) fun z15 =>
   if z15 = true then (
    some true
   ) else (
    bindv (IntKind.wrap .i64 (s6 + 1) : Int) fun z17 =>
    n6 z17
   )
  ) else (
   J4 ()
  )
  ) fun B6 =>
 loopF B6 KK 0
end Go.Sp
end
section
namespace Go.Sp
open Go.Stp Go.ValP
def reckonerlaw13_EvalBranches_1 (x0 : Nd) (x1 : List V) : Option (Rs) :=
 obind (eval_Eval x0 (⟨2, 0, 0⟩ : C) x1) fun y3 =>
 some y3
def reckonerlaw13_EvalBranches_2 (x0 : Rs) (x1 : List (Rs)) : Option (Bool) :=
 bindv ((fun s3 =>
  bindv ((fun s5 =>
   bindv (decide (s3 = (x0.l.length : Int)) : Bool) fun z6 =>
   bindv (IntKind.wrap .i64 ((x1.length : Int) - 1) : Int) fun z7 =>
   chk (z6 = true → (0 : Int) ≤ z7 ∧ z7 < (x1.length : Int)) <|
   bindv (gel x1 z7 : Rs) fun z9 =>
   bindv ((decide (x0.v.k = z9.v.k) && (decide (x0.v.n = z9.v.n) && decide (x0.v.s = z9.v.s))) : Bool) fun z11 =>
   bindv (z6 && z11 : Bool) fun z12 =>
   some z12
   ) : (Unit) → Option (Bool)) fun J5 =>
  bindv (fun (n14 : (Int) → Option (Bool)) (s14 : Int) =>
   bindv (decide (s14 < (x1.length : Int)) : Bool) fun z16 =>
   if z16 = true then (
    chk ((0 : Int) ≤ s14 ∧ s14 < (x1.length : Int)) <|
    bindv (gel x1 s14 : Rs) fun z21 =>
    bindv (fun (n25 : (Int) → Option (Bool)) (s25 : Int) =>
     bindv (decide (s25 < (z21.l.length : Int)) : Bool) fun z27 =>
     if z27 = true then (
      chk ((0 : Int) ≤ s25 ∧ s25 < (z21.l.length : Int)) <|
      bindv (gel z21.l s25 : C) fun z32 =>
      obind (reckonerlaw13_asked x0 z32) fun y34 =>
      bindv (!y34 : Bool) fun z35 =>
      if z35 = true then (
       some false
      ) else (
       bindv (IntKind.wrap .i64 (s25 + 1) : Int) fun z37 =>
       n25 z37
      )
     ) else (
      bindv (IntKind.wrap .i64 (s14 + 1) : Int) fun z38 =>
      n14 z38
     )
     ) fun B25 =>
    loopF B25 KK 0
   ) else (
    J5 ()
   )
   ) fun B14 =>
  loopF B14 KK 0
  ) : (Int) → Option (Bool)) fun J3 =>
 bindv (fun (n40 : (Int × Int) → Option (Bool)) (s40 : Int × Int) =>
  bindv (decide (s40.2 < (x0.l.length : Int)) : Bool) fun z42 =>
  if z42 = true then (
   chk ((0 : Int) ≤ s40.2 ∧ s40.2 < (x0.l.length : Int)) <|
   bindv (gel x0.l s40.2 : C) fun z47 =>
   bindv ((fun s50 =>
    if s50 = true then (
     bindv (IntKind.wrap .i64 (s40.1 + 1) : Int) fun z52 =>
     bindv (IntKind.wrap .i64 (s40.2 + 1) : Int) fun z53 =>
     n40 (z52, z53)
    ) else (
     bindv (IntKind.wrap .i64 (s40.2 + 1) : Int) fun z54 =>
     n40 (s40.1, z54)
    )
    ) : (Bool) → Option (Bool)) fun J50 =>
   bindv (fun (n56 : (Bool × Int) → Option (Bool)) (s56 : Bool × Int) =>
    bindv (decide (s56.2 < (x1.length : Int)) : Bool) fun z58 =>
    if z58 = true then (
     chk ((0 : Int) ≤ s56.2 ∧ s56.2 < (x1.length : Int)) <|
     bindv (gel x1 s56.2 : Rs) fun z63 =>
     obind (if (!s56.1) = true then reckonerlaw13_asked z63 z47 else some default) fun y66 =>
     bindv (s56.1 || y66 : Bool) fun z67 =>
     bindv (IntKind.wrap .i64 (s56.2 + 1) : Int) fun z68 =>
     n56 (z67, z68)
    ) else (
     J50 s56.1
    )
    ) fun B56 =>
   loopF B56 KK (false, 0)
  ) else (
   J3 s40.1
  )
  ) fun B40 =>
 loopF B40 KK (0, 0)
def reckonerlaw13_EvalBranches (x0 : List (Int)) (x1 : List (Int)) (x2 : B2) : Option (Bool) :=
 obind (reckonerlaw13_fit) fun y5 =>
 bindv (!y5 : Bool) fun z6 =>
 if z6 = true then (
  some false
 ) else (
  bindv (IntKind.wrap .i64 ((x0.length : Int) + (x1.length : Int)) : Int) fun z9 =>
  bindv (IntKind.wrap .i64 (z9 + (x2.a.length : Int)) : Int) fun z10 =>
  bindv (IntKind.wrap .i64 (z10 + (x2.b.length : Int)) : Int) fun z11 =>
  bindv (decide (400 < z11) : Bool) fun z12 =>
  if z12 = true then (
   some true
  ) else (
   bindv ((fun s16 =>
    obind (reckonerlaw05_Seed_Formula KK x0 (3 : Int)) fun y19 =>
    obind (reckonerlaw05_Seed_Formula KK x1 (3 : Int)) fun y21 =>
    obind (reckonerlaw05_Seed_Formula KK x2.a (3 : Int)) fun y23 =>
    obind (reckonerlaw13_Place s16) fun y28 =>
    obind (reckonerlaw13_EvalBranches_1 y19.1 y28) fun y33 =>
    obind (reckonerlaw13_EvalBranches_1 y21.1 y28) fun y35 =>
    obind (reckonerlaw13_EvalBranches_1 y23.1 y28) fun y37 =>
    obind (value_ToBool y33.v) fun y42 =>
    bindv ((fun s46 =>
     obind (tree_Apply (1 : Int) [y19.1, y21.1, y23.1]) fun y49 =>
     obind (reckonerlaw13_EvalBranches_1 y49 y28) fun y51 =>
     bindv ((fun s55 =>
      obind (tree_Apply (2 : Int) [y19.1, y21.1]) fun y57 =>
      obind (reckonerlaw13_EvalBranches_1 y57 y28) fun y59 =>
      bindv (decide (y33.v.k = 4) : Bool) fun z62 =>
      obind (if z62 = true then reckonerlaw13_EvalBranches_2 y59 [y33, y35] else some default) fun y64 =>
      bindv (!y64 : Bool) fun z65 =>
      bindv (z62 && z65 : Bool) fun z66 =>
      bindv (!decide (y33.v.k = 4) : Bool) fun z67 =>
      obind (if (!z66 && z67) = true then reckonerlaw13_EvalBranches_2 y59 [y33] else some default) fun y69 =>
      bindv (!y69 : Bool) fun z70 =>
      bindv (z67 && z70 : Bool) fun z71 =>
      bindv (z66 || z71 : Bool) fun z72 =>
      if z72 = true then (
       some false
      ) else (
       obind (value_Num (2000000 : Int)) fun y74 =>
       obind (tree_Value y74) fun y75 =>
       obind (tree_Apply (5 : Int) [y75, y19.1, y21.1, y23.1]) fun y77 =>
       obind (reckonerlaw13_EvalBranches_1 y77 y28) fun y79 =>
       obind (reckonerlaw13_EvalBranches_2 y79 [y35]) fun y81 =>
       obind (if y81 = true then value_Num (4000000 : Int) else some default) fun y82 =>
       obind (if y81 = true then tree_Value y82 else some default) fun y83 =>
       obind (if y81 = true then tree_Apply (5 : Int) [y83, y19.1, y21.1, y23.1] else some default) fun y85 =>
       obind (if y81 = true then reckonerlaw13_EvalBranches_1 y85 y28 else some default) fun y87 =>
       obind (if y81 = true then value_Fail (2 : Int) else some default) fun y89 =>
       bindv ((decide (y87.v.k = y89.k) && (decide (y87.v.n = y89.n) && decide (y87.v.s = y89.s))) : Bool) fun z90 =>
       bindv (y81 && z90 : Bool) fun z91 =>
       some z91
      )
      ) : (Unit) → Option (Bool)) fun J55 =>
     bindv (decide (y42.k = 4) : Bool) fun z92 =>
     if z92 = true then (
      bindv (!((decide (y51.v.k = y42.k) && (decide (y51.v.n = y42.n) && decide (y51.v.s = y42.s)))) : Bool) fun z94 =>
      if z94 = true then (
       some false
      ) else (
       J55 ()
      )
     ) else (
      obind (reckonerlaw13_EvalBranches_2 y51 [y33, (⟨(⟨s46.1, s46.2.1, s46.2.2.1⟩ : V), (⟨s46.2.2.2.1, s46.2.2.2.2.1, s46.2.2.2.2.2.1⟩ : C), s46.2.2.2.2.2.2⟩ : Rs)]) fun y97 =>
      bindv (!y97 : Bool) fun z98 =>
      if z98 = true then (
       some false
      ) else (
       J55 ()
      )
     )
     ) : (Int × Int × (List UInt8) × Int × Int × Int × (List (C))) → Option (Bool)) fun J46 =>
    bindv (decide (y42.k = 3) : Bool) fun z100 =>
    bindv (decide (y42.n = 1) : Bool) fun z101 =>
    bindv (z100 && z101 : Bool) fun z102 =>
    if z102 = true then (
     J46 (y35.v.k, y35.v.n, y35.v.s, y35.c.s, y35.c.c, y35.c.r, y35.l)
    ) else (
     J46 (y37.v.k, y37.v.n, y37.v.s, y37.c.s, y37.c.c, y37.c.r, y37.l)
    )
    ) : ((List (V))) → Option (Bool)) fun J16 =>
   bindv (fun (n105 : (Int × (List (V))) → Option (Bool)) (s105 : Int × (List (V))) =>
    bindv (decide (s105.1 < (x2.b.length : Int)) : Bool) fun z108 =>
    if z108 = true then (
     chk ((0 : Int) ≤ s105.1 ∧ s105.1 < (x2.b.length : Int)) <|
     bindv (gel x2.b s105.1 : Int) fun z113 =>
     bindv (IntKind.wrap .i64 z113 : Int) fun z114 =>
     bindv (IntKind.wrap .i64 (z114 * 250000) : Int) fun z115 =>
     obind (value_Num z115) fun y116 =>
     bindv (bits .and .u8 z113 64 : Int) fun z117 =>
     bindv (decide (0 < z117) : Bool) fun z118 =>
     obind (value_Bool z118) fun y119 =>
     obind (value_Text ([113] : List UInt8)) fun y120 =>
     bindv (IntKind.wrap .i64 z113 : Int) fun z121 =>
     bindv (IntKind.wrap .i64 (Int.tdiv z121 4) : Int) fun z122 =>
     bindv (Int.tmod z122 7 : Int) fun z123 =>
     bindv (IntKind.wrap .i64 (z123 + 1) : Int) fun z124 =>
     obind (value_Fail z124) fun y125 =>
     bindv (bits .and .u8 z113 3 : Int) fun z127 =>
     chk ((0 : Int) ≤ 7) <|
     bindv (shrI .u8 z113 7 : Int) fun z129 =>
     bindv (IntKind.wrap .u8 (z127 + z129) : Int) fun z130 =>
     chk ((0 : Int) ≤ z130 ∧ z130 < (([(⟨0, 0, []⟩ : V), y116, y119, y120, y125]).length : Int)) <|
     bindv (gel ([(⟨0, 0, []⟩ : V), y116, y119, y120, y125]) z130 : V) fun z132 =>
     chk (s105.2.length + [z132].length ≤ 9223372036854775807 ∧ (s105.2.length + [z132].length) * 32 ≤ 140737488355328) <|
     bindv (s105.2 ++ [z132] : List (V)) fun z136 =>
     bindv (IntKind.wrap .i64 (s105.1 + 1) : Int) fun z137 =>
     n105 (z137, z136)
    ) else (
     J16 s105.2
    )
    ) fun B105 =>
   loopF B105 KK (0, ([] : List (V)))
  )
 )
end Go.Sp
end
