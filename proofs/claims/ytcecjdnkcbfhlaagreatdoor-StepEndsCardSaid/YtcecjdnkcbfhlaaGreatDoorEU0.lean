/- Joined texts. -/
import Derived.Test.YtcecjdnkcbfhlaaGreatDoorEL1
import Derived.Test.YtcecjdnkcbfhlaaGreatDoorEM0
import Derived.Test.YtcecjdnkcbfhlaaGreatDoorES0
set_option linter.unusedSimpArgs false
set_option linter.unusedVariables false
set_option linter.unusedSectionVars false
section
namespace Go.Sp
open Go.Stp Go.ValP
def rowL (a b:C) (i:Nat):List C:=(List.range (b.c-a.c+1).toNat).map fun j:Nat=>⟨a.s,a.c+j,a.r+i⟩
def upL (a b:C) (i j:Nat):List C:=((List.range i).flatMap (rowL a b))++(List.range j).map fun j:Nat=>(⟨a.s,a.c+j,a.r+i⟩:C)
def cellsL (a b:C):List C:=(List.range (b.r-a.r+1).toNat).flatMap (rowL a b)
def addr_Cells (a b:C):Option (List C):=
 obind (addr_Order a b) fun o=>
 if o.2.2=true then
  chk ((-9223372036854775808≤o.1.c∧o.2.1.c<9223372036854775807)∧-9223372036854775808≤o.1.r∧o.2.1.r<9223372036854775807)<|
  some (cellsL o.1 o.2.1)
 else some []
theorem upL_succ {a b:C} {i j:Nat}:upL a b i j++[⟨a.s,a.c+j,a.r+i⟩]=upL a b i (j+1):=by
 unfold upL
 rw [List.append_assoc,List.range_succ,List.map_append]
 rfl
theorem upL_row {a b:C} {i:Nat}:upL a b i (b.c-a.c+1).toNat=upL a b (i+1) 0:=by
 unfold upL
 rw [List.range_succ,List.flatMap_append]
 simp [rowL]
theorem upL_all {a b:C}:upL a b (b.r-a.r+1).toNat 0=cellsL a b:=by simp [upL,cellsL]
theorem upL_prefix {a b:C} {i j:Nat} (hi:i<(b.r-a.r+1).toNat) (hj:j≤(b.c-a.c+1).toNat):upL a b i j <+: cellsL a b:=by
 unfold upL cellsL
 obtain ⟨m,hm⟩:∃ m,(b.r-a.r+1).toNat=i+(1+m):=⟨(b.r-a.r+1).toNat-i-1,by omega⟩
 obtain ⟨k,hk⟩:∃ k,(b.c-a.c+1).toNat=j+k:=⟨(b.c-a.c+1).toNat-j,by omega⟩
 rw [hm,List.range_add,List.flatMap_append,List.range_add,List.map_append,List.flatMap_append]
 have e:List.flatMap (rowL a b) (List.map (fun x=>i+x) (List.range 1))=rowL a b i:=by simp
 rw [e]
 refine List.prefix_append_right_inj _ |>.2 ?_
 unfold rowL
 rw [hk,List.range_add,List.map_append,List.append_assoc]
 exact List.prefix_append _ _
end Go.Sp
end
section
namespace Go.Sp
open Go.Stp Go.ValP
def eval_run_truth (rec:Rn→Nd→(List (C × Bool))→Option ((Gt) × List (C × Bool))) (x0:Rn) (x1:Nd) (m0:List (C × Bool)):Option ((Gt) × List (C × Bool)):=
 obind (rec x0 x1 m0) fun y3=>
 bindv (decide (y3.1.v.k=4):Bool) fun z7=>
 if z7=true then (
  some (y3.1,y3.2)
 ) else (
  obind (value_ToBool y3.1.v) fun y9=>
  obind (eval_run_made x0 y9) fun y10=>
  some (y10,y3.2)
 )
def eval_run_lazy (rec:Rn→Nd→(List (C × Bool))→Option ((Gt) × List (C × Bool))) (x0:Rn) (x1:Nd) (m0:List (C × Bool)):Option ((Gt) × List (C × Bool)):=
 bindv ((fun s4=>
  chk ((0:Int)≤0∧0<(x1.l.length:Int))<|
  bindv (gel x1.l 0:Nd) fun z6=>
  obind (eval_run_truth rec x0 z6 s4.1) fun y8=>
  bindv (decide (y8.1.v.k=4):Bool) fun z12=>
  if z12=true then (
   some (y8.1,y8.2)
  ) else (
   bindv (decide (y8.1.v.n=1):Bool) fun z14=>
   if z14=true then (
    chk ((0:Int)≤1∧1<(x1.l.length:Int))<|
    bindv (gel x1.l 1:Nd) fun z17=>
    obind (rec x0 z17 y8.2) fun y19=>
    some (y19.1,y19.2)
   ) else (
    bindv (decide ((x1.l.length:Int)=3):Bool) fun z21=>
    if z21=true then (
     chk ((0:Int)≤2∧2<(x1.l.length:Int))<|
     bindv (gel x1.l 2:Nd) fun z24=>
     obind (rec x0 z24 y8.2) fun y26=>
     some (y26.1,y26.2)
    ) else (
     obind (value_Bool false) fun y28=>
     obind (eval_run_made x0 y28) fun y29=>
     some (y29,y8.2)
    )
   )
  )
  ):((List (C × Bool)) × Int × Int × (List UInt8) × Int × Int × Int)→Option ((Gt) × List (C × Bool))) fun J4=>
 bindv (decide (x1.op=2):Bool) fun z31=>
 if z31=true then (
  chk ((0:Int)≤0∧0<(x1.l.length:Int))<|
  bindv (gel x1.l 0:Nd) fun z34=>
  obind (rec x0 z34 m0) fun y36=>
  bindv (!decide (y36.1.v.k=4):Bool) fun z40=>
  if z40=true then (
   some (y36.1,y36.2)
  ) else (
   chk ((0:Int)≤1∧1<(x1.l.length:Int))<|
   bindv (gel x1.l 1:Nd) fun z43=>
   obind (rec x0 z43 y36.2) fun y45=>
   some (y45.1,y45.2)
  )
 ) else (
  bindv ((fun s48=>
   if s48=true then (
    bindv ((fun s51=>
     bindv (decide (x1.op=3):Bool) fun z52=>
     obind (value_Bool z52) fun y53=>
     obind (eval_run_made x0 y53) fun y54=>
     some (y54,s51.1)
     ):((List (C × Bool)) × Int × Int × (List UInt8) × Int × Int × Int)→Option ((Gt) × List (C × Bool))) fun J51=>
    bindv (fun (n56:(Int × (List (C × Bool)) × Int × Int × (List UInt8) × Int × Int × Int)→Option ((Gt) × List (C × Bool))) (s56:Int × (List (C × Bool)) × Int × Int × (List UInt8) × Int × Int × Int)=>
     bindv (decide (s56.1<(x1.l.length:Int)):Bool) fun z58=>
     if z58=true then (
      chk ((0:Int)≤s56.1∧s56.1<(x1.l.length:Int))<|
      bindv (gel x1.l s56.1:Nd) fun z63=>
      obind (eval_run_truth rec x0 z63 s56.2.1) fun y66=>
      bindv (decide (y66.1.v.k=4):Bool) fun z69=>
      bindv (decide (y66.1.v.n=1):Bool) fun z70=>
      bindv (decide (x1.op=4):Bool) fun z71=>
      bindv (z70 == z71:Bool) fun z72=>
      bindv (z69||z72:Bool) fun z73=>
      if z73=true then (
       some (y66.1,y66.2)
      ) else (
       bindv (IntKind.wrap .i64 (s56.1+1):Int) fun z75=>
       n56 (z75,y66.2,s56.2.2.1,s56.2.2.2.1,s56.2.2.2.2.1,s56.2.2.2.2.2.1,s56.2.2.2.2.2.2.1,s56.2.2.2.2.2.2.2)
      )
     ) else (
      J51 (s56.2.1,s56.2.2.1,s56.2.2.2.1,s56.2.2.2.2.1,s56.2.2.2.2.2.1,s56.2.2.2.2.2.2.1,s56.2.2.2.2.2.2.2)
     )
     ) fun B56=>
    loopF B56 KK (0,m0,0,0,[],0,0,0)
   ) else (
    bindv (decide (x1.op=5):Bool) fun z76=>
    if z76=true then (
     chk ((0:Int)≤0∧0<(x1.l.length:Int))<|
     bindv (gel x1.l 0:Nd) fun z79=>
     obind (rec x0 z79 m0) fun y81=>
     bindv (decide (y81.1.v.k=4):Bool) fun z85=>
     if z85=true then (
      some (y81.1,y81.2)
     ) else (
      obind (value_ToNum y81.1.v) fun y87=>
      bindv (decide (y87.k=4):Bool) fun z90=>
      if z90=true then (
       obind (eval_run_made x0 y87) fun y92=>
       some (y92,y81.2)
      ) else (
       bindv (IntKind.wrap .i64 (Int.tdiv y87.n 1000000):Int) fun z94=>
       bindv (decide (1≤z94):Bool) fun z95=>
       bindv (decide (z94<(x1.l.length:Int)):Bool) fun z96=>
       bindv (z95&&z96:Bool) fun z97=>
       if z97=true then (
        chk ((0:Int)≤z94∧z94<(x1.l.length:Int))<|
        bindv (gel x1.l z94:Nd) fun z100=>
        obind (rec x0 z100 y81.2) fun y102=>
        some (y102.1,y102.2)
       ) else (
        obind (value_Fail (2:Int)) fun y104=>
        obind (eval_run_made x0 y104) fun y105=>
        some (y105,y81.2)
       )
      )
     )
    ) else (
     J4 (m0,0,0,[],0,0,0)
    )
   )
   ):(Bool)→Option ((Gt) × List (C × Bool))) fun J48=>
  bindv (decide (x1.op=3):Bool) fun z106=>
  if z106=true then (
   J48 z106
  ) else (
   bindv (decide (x1.op=4):Bool) fun z108=>
   J48 z108
  )
 )
def eval_run_strict (rec:Rn→Nd→(List (C × Bool))→Option ((Gt) × List (C × Bool))) (x0:Rn) (x1:Nd) (m0:List (C × Bool)):Option ((Gt) × List (C × Bool)):=
 bindv ((fun s5=>
  obind (funcs_Apply x1.op s5.2.2.2.2.2.2.2) fun y8=>
  obind (eval_run_made x0 y8) fun y9=>
  some (y9,s5.1)
  ):((List (C × Bool)) × Int × Int × (List UInt8) × Int × Int × Int × (List (Arg)))→Option ((Gt) × List (C × Bool))) fun J5=>
 bindv (fun (n11:(Int × (List (C × Bool)) × Int × Int × (List UInt8) × Int × Int × Int × (List (Arg)))→Option ((Gt) × List (C × Bool))) (s11:Int × (List (C × Bool)) × Int × Int × (List UInt8) × Int × Int × Int × (List (Arg)))=>
  bindv (decide (s11.1<(x1.l.length:Int)):Bool) fun z15=>
  if z15=true then (
   chk ((0:Int)≤s11.1∧s11.1<(x1.l.length:Int))<|
   bindv (gel x1.l s11.1:Nd) fun z20=>
   obind (eval_Area x0.p z20) fun y25=>
   bindv ((fun s29=>
    bindv ((fun s33=>
     chk (s11.2.2.2.2.2.2.2.2.length+[(⟨s29.2.1,s29.2.2.1,s33.2.2.2.2.2.2⟩:Arg)].length≤9223372036854775807∧(s11.2.2.2.2.2.2.2.2.length+[(⟨s29.2.1,s29.2.2.1,s33.2.2.2.2.2.2⟩:Arg)].length)*40≤140737488355328)<|
     bindv (s11.2.2.2.2.2.2.2.2++[(⟨s29.2.1,s29.2.2.1,s33.2.2.2.2.2.2⟩:Arg)]:List (Arg)) fun z40=>
     bindv (IntKind.wrap .i64 (s11.1+1):Int) fun z41=>
     n11 (z41,s29.1,s33.1,s33.2.1,s33.2.2.1,s33.2.2.2.1,s33.2.2.2.2.1,s33.2.2.2.2.2.1,z40)
     ):(Int × Int × (List UInt8) × Int × Int × Int × (List (V)))→Option ((Gt) × List (C × Bool))) fun J33=>
    bindv (fun (n43:(Int × Int × Int × (List UInt8) × Int × Int × Int × (List (V)))→Option ((Gt) × List (C × Bool))) (s43:Int × Int × Int × (List UInt8) × Int × Int × Int × (List (V)))=>
     bindv (decide (s43.1<(s29.2.2.2.length:Int)):Bool) fun z47=>
     if z47=true then (
      chk ((0:Int)≤s43.1∧s43.1<(s29.2.2.2.length:Int))<|
      bindv (gel s29.2.2.2 s43.1:Gt) fun z52=>
      bindv (decide (z52.v.k=4):Bool) fun z55=>
      obind (if z55=true then funcs_Bears x1.op else some default) fun y56=>
      bindv (!y56:Bool) fun z57=>
      bindv (z55&&z57:Bool) fun z58=>
      if z58=true then (
       some (z52,s29.1)
      ) else (
       chk (s43.2.2.2.2.2.2.2.length+[z52.v].length≤9223372036854775807∧(s43.2.2.2.2.2.2.2.length+[z52.v].length)*32≤140737488355328)<|
       bindv (s43.2.2.2.2.2.2.2++[z52.v]:List (V)) fun z63=>
       bindv (IntKind.wrap .i64 (s43.1+1):Int) fun z64=>
       n43 (z64,s43.2.1,s43.2.2.1,s43.2.2.2.1,s43.2.2.2.2.1,s43.2.2.2.2.2.1,s43.2.2.2.2.2.2.1,z63)
      )
     ) else (
      J33 (s43.2.1,s43.2.2.1,s43.2.2.2.1,s43.2.2.2.2.1,s43.2.2.2.2.2.1,s43.2.2.2.2.2.2.1,s43.2.2.2.2.2.2.2)
     )
     ) fun B43=>
    loopF B43 KK (0,s11.2.2.1,s11.2.2.2.1,s11.2.2.2.2.1,s11.2.2.2.2.2.1,s11.2.2.2.2.2.2.1,s11.2.2.2.2.2.2.2.1,([]:List (V)))
    ):((List (C × Bool)) × Bool × Int × (List (Gt)))→Option ((Gt) × List (C × Bool))) fun J29=>
   if y25.2.2=true then (
    bindv (IntKind.wrap .i64 (y25.2.1.c-y25.1.c):Int) fun z66=>
    bindv (IntKind.wrap .i64 (z66+1):Int) fun z67=>
    obind (addr_Cells y25.1 y25.2.1) fun y68=>
    bindv (fun (s70:(List (C × Bool)) × (List (Gt))) (x:C)=>
     obind (eval_run_cell x0 x s70.1) fun y73=>
     chk (s70.2.length+[y73.1].length≤9223372036854775807∧(s70.2.length+[y73.1].length)*56≤140737488355328)<|
     bindv (s70.2++[y73.1]:List (Gt)) fun z77=>
     some (y73.2,z77)
     ) fun B70=>
    obind (foldO B70 (s11.2.1,([]:List (Gt))) y68) fun f70=>
    J29 (f70.1,true,z67,f70.2)
   ) else (
    obind (rec x0 z20 s11.2.1) fun y79=>
    chk (([]:List (Gt)).length+[y79.1].length≤9223372036854775807∧(([]:List (Gt)).length+[y79.1].length)*56≤140737488355328)<|
    bindv (([]:List (Gt))++[y79.1]:List (Gt)) fun z83=>
    J29 (y79.2,false,1,z83)
   )
  ) else (
   J5 (s11.2.1,s11.2.2.1,s11.2.2.2.1,s11.2.2.2.2.1,s11.2.2.2.2.2.1,s11.2.2.2.2.2.2.1,s11.2.2.2.2.2.2.2.1,s11.2.2.2.2.2.2.2.2)
  )
  ) fun B11=>
 loopF B11 KK (0,m0,0,0,[],0,0,0,([]:List (Arg)))
def eval_run_eval_B (rec:Rn→Nd→(List (C × Bool))→Option ((Gt) × List (C × Bool))) (x0:Rn) (x1:Nd) (m0:List (C × Bool)):Option ((Gt) × List (C × Bool)):=
 bindv (decide (x1.k=1):Bool) fun z5=>
 if z5=true then (
  obind (eval_run_made x0 x1.v) fun y7=>
  some (y7,m0)
 ) else (
  bindv ((fun s9=>
   if s9=true then (
    obind (eval_Area x0.p x1) fun y11=>
    bindv (!y11.2.2:Bool) fun z15=>
    if z15=true then (
     obind (value_Fail (4:Int)) fun y17=>
     obind (eval_run_made x0 y17) fun y18=>
     some (y18,m0)
    ) else (
     bindv (!((decide (y11.1.s=y11.2.1.s)&&(decide (y11.1.c=y11.2.1.c)&&decide (y11.1.r=y11.2.1.r)))):Bool) fun z20=>
     if z20=true then (
      obind (value_Fail (2:Int)) fun y22=>
      obind (eval_run_made x0 y22) fun y23=>
      some (y23,m0)
     ) else (
      obind (eval_run_cell x0 y11.1 m0) fun y24=>
      some (y24.1,y24.2)
     )
    )
   ) else (
    bindv ((fun s27=>
     if s27=true then (
      chk ((0:Int)≤0∧0<(x1.l.length:Int))<|
      bindv (gel x1.l 0:Nd) fun z30=>
      obind (rec x0 z30 m0) fun y32=>
      bindv (decide (y32.1.v.k=4):Bool) fun z36=>
      if z36=true then (
       some (y32.1,y32.2)
      ) else (
       obind (funcs_Unary x1.k y32.1.v) fun y38=>
       obind (eval_run_made x0 y38) fun y39=>
       some (y39,y32.2)
      )
     ) else (
      bindv (decide (x1.k=7):Bool) fun z40=>
      if z40=true then (
       chk ((0:Int)≤0∧0<(x1.l.length:Int))<|
       bindv (gel x1.l 0:Nd) fun z43=>
       obind (rec x0 z43 m0) fun y45=>
       bindv (decide (y45.1.v.k=4):Bool) fun z49=>
       if z49=true then (
        some (y45.1,y45.2)
       ) else (
        chk ((0:Int)≤1∧1<(x1.l.length:Int))<|
        bindv (gel x1.l 1:Nd) fun z52=>
        obind (rec x0 z52 y45.2) fun y54=>
        bindv (decide (y54.1.v.k=4):Bool) fun z58=>
        if z58=true then (
         some (y54.1,y54.2)
        ) else (
         obind (funcs_Binary x1.op y45.1.v y54.1.v) fun y60=>
         obind (eval_run_made x0 y60) fun y61=>
         some (y61,y54.2)
        )
       )
      ) else (
       bindv (decide (x1.op≤5):Bool) fun z63=>
       if z63=true then (
        obind (eval_run_lazy rec x0 x1 m0) fun y65=>
        some (y65.1,y65.2)
       ) else (
        obind (eval_run_strict rec x0 x1 m0) fun y67=>
        some (y67.1,y67.2)
       )
      )
     )
     ):(Bool)→Option ((Gt) × List (C × Bool))) fun J27=>
    bindv (decide (x1.k=5):Bool) fun z69=>
    if z69=true then (
     J27 z69
    ) else (
     bindv (decide (x1.k=6):Bool) fun z71=>
     J27 z71
    )
   )
   ):(Bool)→Option ((Gt) × List (C × Bool))) fun J9=>
  bindv (decide (x1.k=2):Bool) fun z72=>
  if z72=true then (
   J9 z72
  ) else (
   bindv (decide (x1.k=3):Bool) fun z74=>
   if z74=true then (
    J9 z74
   ) else (
    bindv (decide (x1.k=4):Bool) fun z76=>
    J9 z76
   )
  )
 )
def eval_run_eval:Nat→Rn→Nd→(List (C × Bool))→Option ((Gt) × List (C × Bool))
 |0,_,_,_=>none
 |k+1,x0,x1,m0=>eval_run_eval_B (eval_run_eval k) x0 x1 m0
end Go.Sp
end
section
namespace Go.Sp
open Go.Stp Go.ValP
def eval_Eval (x0:Nd) (x1:C) (x2:List V):Option (Rs):=
 obind (eval_run_eval KK (⟨x2,x1⟩:Rn) x0 ([]:List (C × Bool))) fun y7=>
 bindv ((fun s12=>
  chk (y7.2.length<4611686018427387904∧y7.2.length*24≤140737488355328)<|
  some (⟨y7.1.v,(⟨s12.1,s12.2.1,s12.2.2⟩:C),(srtK y7.2)⟩:Rs)
  ):(Int × Int × Int)→Option (Rs)) fun J12=>
 bindv (decide (y7.1.v.k=4):Bool) fun z20=>
 if z20=true then (
  J12 (y7.1.c.s,y7.1.c.c,y7.1.c.r)
 ) else (
  J12 (0,0,0)
 )
end Go.Sp
end
section
namespace Go.Sp
open Go.Stp Go.ValP
def tree_Size_B (rec:Nd→Option (Int)) (x0:Nd):Option (Int):=
 bindv ((fun s3=>
  some s3
  ):(Int)→Option (Int)) fun J3=>
 bindv (fun (n5:(Int × Int)→Option (Int)) (s5:Int × Int)=>
  bindv (decide (s5.2<(x0.l.length:Int)):Bool) fun z7=>
  if z7=true then (
   chk ((0:Int)≤s5.2∧s5.2<(x0.l.length:Int))<|
   bindv (gel x0.l s5.2:Nd) fun z12=>
   obind (rec z12) fun y15=>
   bindv (IntKind.wrap .i64 (s5.1+y15):Int) fun z16=>
   bindv (IntKind.wrap .i64 (s5.2+1):Int) fun z17=>
   n5 (z16,z17)
  ) else (
   J3 s5.1
  )
  ) fun B5=>
 loopF B5 KK (1,0)
def tree_Size:Nat→Nd→Option (Int)
 |0,_=>none
 |k+1,x0=>tree_Size_B (tree_Size k) x0
def tree_Same_B (rec:Nd→Nd→Option (Bool)) (x0:Nd) (x1:Nd):Option (Bool):=
 bindv (!decide (x0.k=x1.k):Bool) fun z4=>
 bindv (!decide (x0.op=x1.op):Bool) fun z5=>
 bindv (z4||z5:Bool) fun z6=>
 bindv (!((decide (x0.v.k=x1.v.k)&&(decide (x0.v.n=x1.v.n)&&decide (x0.v.s=x1.v.s)))):Bool) fun z7=>
 bindv (z6||z7:Bool) fun z8=>
 bindv (!((decide (x0.a.c.s=x1.a.c.s)&&(decide (x0.a.c.c=x1.a.c.c)&&(decide (x0.a.c.r=x1.a.c.r)&&(decide (x0.a.ac=x1.a.ac)&&decide (x0.a.ar=x1.a.ar)))))):Bool) fun z9=>
 bindv (z8||z9:Bool) fun z10=>
 bindv (!((decide (x0.b.c.s=x1.b.c.s)&&(decide (x0.b.c.c=x1.b.c.c)&&(decide (x0.b.c.r=x1.b.c.r)&&(decide (x0.b.ac=x1.b.ac)&&decide (x0.b.ar=x1.b.ar)))))):Bool) fun z11=>
 bindv (z10||z11:Bool) fun z12=>
 bindv (!decide (x0.nm=x1.nm):Bool) fun z13=>
 bindv (z12||z13:Bool) fun z14=>
 bindv (!decide ((x0.l.length:Int)=(x1.l.length:Int)):Bool) fun z15=>
 bindv (z14||z15:Bool) fun z16=>
 if z16=true then (
  some false
 ) else (
  bindv ((fun s19=>
   some true
   ):(Unit)→Option (Bool)) fun J19=>
  bindv (fun (n21:(Int)→Option (Bool)) (s21:Int)=>
   bindv (decide (s21<(x0.l.length:Int)):Bool) fun z23=>
   if z23=true then (
    chk ((0:Int)≤s21∧s21<(x0.l.length:Int))<|
    bindv (gel x0.l s21:Nd) fun z28=>
    chk ((0:Int)≤s21∧s21<(x1.l.length:Int))<|
    bindv (gel x1.l s21:Nd) fun z31=>
    obind (rec z28 z31) fun y33=>
    bindv (!y33:Bool) fun z34=>
    if z34=true then (
     some false
    ) else (
     bindv (IntKind.wrap .i64 (s21+1):Int) fun z36=>
     n21 z36
    )
   ) else (
    J19 ()
   )
   ) fun B21=>
  loopF B21 KK 0
 )
def tree_Same:Nat→Nd→Nd→Option (Bool)
 |0,_,_=>none
 |k+1,x0,x1=>tree_Same_B (tree_Same k) x0 x1
end Go.Sp
end
section
namespace Go.Sp
open Go.Stp Go.ValP
def text2:List UInt8:=[60,62,32,60,61,32,62,61,32,43,32,45,32,42,32,47,32,38,32,61,32,60,32,62,32,37,32,40,32,41,32,44,32,58]
def lex_IsWord (x0:Int):Option (Bool):=
 bindv (decide (65≤x0):Bool) fun z1=>
 bindv (decide (x0≤90):Bool) fun z2=>
 bindv (z1&&z2:Bool) fun z3=>
 bindv (decide (48≤x0):Bool) fun z4=>
 bindv (decide (x0≤57):Bool) fun z5=>
 bindv (z4&&z5:Bool) fun z6=>
 bindv (z3||z6:Bool) fun z7=>
 bindv (decide (x0=36):Bool) fun z8=>
 bindv (z7||z8:Bool) fun z9=>
 bindv (decide (x0=33):Bool) fun z10=>
 bindv (z9||z10:Bool) fun z11=>
 bindv (decide (x0=95):Bool) fun z12=>
 bindv (z11||z12:Bool) fun z13=>
 some z13
def lex_run (x0:List UInt8) (x1:Int→Option (Bool)):Option (Int):=
 bindv ((fun s2=>
  some (x0.length:Int)
  ):(Unit)→Option (Int)) fun J2=>
 bindv (fun (n4:(Int)→Option (Int)) (s4:Int)=>
  bindv (decide (s4<(x0.length:Int)):Bool) fun z6=>
  if z6=true then (
   chk ((0:Int)≤s4∧s4<(x0.length:Int))<|
   bindv (bt x0 s4:Int) fun z11=>
   obind (x1 z11) fun y12=>
   bindv (!y12:Bool) fun z13=>
   if z13=true then (
    some s4
   ) else (
    bindv (IntKind.wrap .i64 (s4+1):Int) fun z15=>
    n4 z15
   )
  ) else (
   J2 ()
  )
  ) fun B4=>
 loopF B4 KK 0
def lex_one_1 (x0:Int):Option (Bool):=
 bindv (decide (48≤x0):Bool) fun z1=>
 bindv (decide (x0≤57):Bool) fun z2=>
 bindv (z1&&z2:Bool) fun z3=>
 bindv (decide (x0=46):Bool) fun z4=>
 bindv (z3||z4:Bool) fun z5=>
 some z5
def lex_one (x0:List UInt8):Option (Tk × Int):=
 chk ((0:Int)≤0∧0<(x0.length:Int))<|
 bindv (bt x0 0:Int) fun z3=>
 bindv (decide (48≤z3):Bool) fun z5=>
 bindv (decide (z3≤57):Bool) fun z6=>
 bindv (z5&&z6:Bool) fun z7=>
 bindv (decide (z3=46):Bool) fun z8=>
 bindv (z7||z8:Bool) fun z9=>
 if z9=true then (
  obind (lex_run x0 (fun c11=>lex_one_1 c11)) fun y12=>
  chk ((0:Int)≤y12∧y12≤(x0.length:Int))<|
  bindv (cutS x0 0 y12:List UInt8) fun z14=>
  some ((⟨1,z14,0⟩:Tk),y12)
 ) else (
  bindv (decide (z3=34):Bool) fun z15=>
  if z15=true then (
   none
  ) else (
   bindv (decide (z3=35):Bool) fun z17=>
   if z17=true then (
    none
   ) else (
    obind (lex_IsWord z3) fun y19=>
    bindv (!decide (z3=33):Bool) fun z20=>
    bindv (y19&&z20:Bool) fun z21=>
    if z21=true then (
     none
    ) else (
     chk (text2.length<4294967281∧(text2.all fun b=>decide (b.toNat<128))=true)<|
     bindv (Lib.fields text2:(List (List UInt8))) fun z26=>
     bindv (fun (n29:(Int × Int × Int × (List UInt8) × Int)→Option (Tk × Int)) (s29:Int × Int × Int × (List UInt8) × Int)=>
      bindv (decide (s29.2.1<(z26.length:Int)):Bool) fun z31=>
      if z31=true then (
       chk ((0:Int)≤s29.2.1∧s29.2.1<(z26.length:Int))<|
       bindv (gel z26 s29.2.1:List UInt8) fun z36=>
       bindv (Lib.hasPrefix x0 z36:Bool) fun z38=>
       if z38=true then (
        some ((⟨4,z36,0⟩:Tk),(z36.length:Int))
       ) else (
        bindv (IntKind.wrap .i64 (s29.2.1+1):Int) fun z40=>
        n29 (s29.1,z40,s29.2.2.1,s29.2.2.2.1,s29.2.2.2.2)
       )
      ) else (
       none
      )
      ) fun B29=>
     loopF B29 KK (0,0,0,[],0)
    )
   )
  )
 )
def lex_All (x0:List UInt8):Option ((List (Tk)) × Int × Int):=
 bindv (decide (200<(x0.length:Int)):Bool) fun z2=>
 if z2=true then (
  none
 ) else (
  bindv ((fun s5=>
   some (s5,0,0)
   ):((List (Tk)))→Option ((List (Tk)) × Int × Int)) fun J5=>
  bindv (fun (n8:(Int × (List (Tk)))→Option ((List (Tk)) × Int × Int)) (s8:Int × (List (Tk)))=>
   bindv (decide (s8.1<(x0.length:Int)):Bool) fun z12=>
   if z12=true then (
    chk ((0:Int)≤s8.1∧s8.1<(x0.length:Int))<|
    bindv (bt x0 s8.1:Int) fun z17=>
    bindv (decide (z17=32):Bool) fun z18=>
    if z18=true then (
     none
    ) else (
     chk ((0:Int)≤s8.1∧s8.1≤(x0.length:Int))<|
     bindv (cutS x0 s8.1 x0.length:List UInt8) fun z21=>
     obind (lex_one z21) fun y22=>
     bindv (decide (y22.2=0):Bool) fun z25=>
     if z25=true then (
      none
     ) else (
      chk (s8.2.length+[(⟨y22.1.k,y22.1.s,s8.1⟩:Tk)].length≤9223372036854775807∧(s8.2.length+[(⟨y22.1.k,y22.1.s,s8.1⟩:Tk)].length)*32≤140737488355328)<|
      bindv (s8.2++[(⟨y22.1.k,y22.1.s,s8.1⟩:Tk)]:List (Tk)) fun z30=>
      bindv (IntKind.wrap .i64 (s8.1+y22.2):Int) fun z31=>
      n8 (z31,z30)
     )
    )
   ) else (
    J5 s8.2
   )
   ) fun B8=>
  loopF B8 KK (0,([]:List (Tk)))
 )
end Go.Sp
end
section
namespace Go.Sp
open Go.Stp Go.ValP
def text3:List UInt8:=[43,32,45,32,42,32,47,32,38,32,61,32,60,62,32,60,32,60,61,32,62,32,62,61]
def parse_parser_is (x0:List Tk) (x0s:Int) (x0e:Int) (x0d:Int) (x1:List UInt8):Option ((Bool) × (List Tk)):=
 bindv (decide ((x0.length:Int)=0):Bool) fun z2=>
 chk ((!z2)=true→(0:Int)≤0∧0<(x0.length:Int))<|
 bindv (gel x0 0:Tk) fun z4=>
 bindv (!decide (z4.k=4):Bool) fun z5=>
 bindv (z2||z5:Bool) fun z6=>
 chk ((!z6)=true→(0:Int)≤0∧0<(x0.length:Int))<|
 bindv (gel x0 0:Tk) fun z8=>
 bindv (!decide (z8.s=x1):Bool) fun z9=>
 bindv (z6||z9:Bool) fun z10=>
 if z10=true then (
  some (false,x0)
 ) else (
  chk ((0:Int)≤(1:Int)∧(1:Int)≤(x0.length:Int)∧(x0.length:Int)≤(x0.length:Int))<|
  bindv (cutL x0 (1:Int) (x0.length:Int):List (Tk)) fun z13=>
  some (true,z13)
 )
def parse_parser_op (x0:List Tk) (x0s:Int) (x0e:Int) (x0d:Int) (x1:Int):Option ((Int) × (List Tk)):=
 bindv (decide ((x0.length:Int)=0):Bool) fun z2=>
 chk ((!z2)=true→(0:Int)≤0∧0<(x0.length:Int))<|
 bindv (gel x0 0:Tk) fun z4=>
 bindv (!decide (z4.k=4):Bool) fun z5=>
 bindv (z2||z5:Bool) fun z6=>
 if z6=true then (
  some (0,x0)
 ) else (
  chk ((0:Int)≤0∧0<(x0.length:Int))<|
  bindv (gel x0 0:Tk) fun z9=>
  bindv ((fun s11=>
   some (0,s11)
   ):((List (Tk)))→Option ((Int) × (List Tk))) fun J11=>
  chk ((0:Int)≤x1∧x1<(4:Int))<|
  bindv (gel levelsL x1:List UInt8) fun z15=>
  chk (z15.length<4294967281∧(z15.all fun b=>decide (b.toNat<128))=true)<|
  bindv (Lib.fields z15:(List (List UInt8))) fun z18=>
  bindv (fun (n21:(Int × (List (Tk)))→Option ((Int) × (List Tk))) (s21:Int × (List (Tk)))=>
   bindv (decide (s21.1<(z18.length:Int)):Bool) fun z24=>
   if z24=true then (
    chk ((0:Int)≤s21.1∧s21.1<(z18.length:Int))<|
    bindv (gel z18 s21.1:List UInt8) fun z29=>
    bindv (!decide (z29=z9.s):Bool) fun z31=>
    if z31=true then (
     bindv (IntKind.wrap .i64 (s21.1+1):Int) fun z33=>
     n21 (z33,s21.2)
    ) else (
     chk ((0:Int)≤(1:Int)∧(1:Int)≤(s21.2.length:Int)∧(s21.2.length:Int)≤(s21.2.length:Int))<|
     bindv (cutL s21.2 (1:Int) (s21.2.length:Int):List (Tk)) fun z35=>
     chk (text3.length<4294967281∧(text3.all fun b=>decide (b.toNat<128))=true)<|
     bindv (Lib.fields text3:(List (List UInt8))) fun z39=>
     bindv (fun (n42:(Int)→Option ((Int) × (List Tk))) (s42:Int)=>
      bindv (decide (s42<(z39.length:Int)):Bool) fun z44=>
      if z44=true then (
       chk ((0:Int)≤s42∧s42<(z39.length:Int))<|
       bindv (gel z39 s42:List UInt8) fun z49=>
       bindv (decide (z49=z9.s):Bool) fun z50=>
       if z50=true then (
        bindv (IntKind.wrap .i64 (s42+1):Int) fun z52=>
        some (z52,z35)
       ) else (
        bindv (IntKind.wrap .i64 (s42+1):Int) fun z53=>
        n42 z53
       )
      ) else (
       bindv (IntKind.wrap .i64 (s21.1+1):Int) fun z54=>
       n21 (z54,z35)
      )
      ) fun B42=>
     loopF B42 KK 0
    )
   ) else (
    J11 s21.2
   )
   ) fun B21=>
  loopF B21 KK (0,x0)
 )
def parse_parser_primary (x0:List Tk) (x0s:Int) (x0e:Int) (x0d:Int):Option ((Nd) × (List Tk)):=
 obind (parse_parser_is x0 x0s x0e x0d ([40]:List UInt8)) fun y4=>
 if y4.1=true then (
  none
 ) else (
  bindv (decide ((y4.2.length:Int)=0):Bool) fun z8=>
  chk ((!z8)=true→(0:Int)≤0∧0<(y4.2.length:Int))<|
  bindv (gel y4.2 0:Tk) fun z10=>
  bindv (decide (z10.k=4):Bool) fun z11=>
  bindv (z8||z11:Bool) fun z12=>
  if z12=true then (
   none
  ) else (
   chk ((0:Int)≤0∧0<(y4.2.length:Int))<|
   bindv (gel y4.2 0:Tk) fun z15=>
   bindv (decide (z15.k=1):Bool) fun z19=>
   if z19=true then (
    obind (num_Parse z15.s) fun y21=>
    bindv (!y21.2:Bool) fun z23=>
    if z23=true then (
     none
    ) else (
     chk ((0:Int)≤(1:Int)∧(1:Int)≤(y4.2.length:Int)∧(y4.2.length:Int)≤(y4.2.length:Int))<|
     bindv (cutL y4.2 (1:Int) (y4.2.length:Int):List (Tk)) fun z26=>
     obind (value_Num y21.1) fun y28=>
     obind (tree_Value y28) fun y29=>
     some (y29,z26)
    )
   ) else (
    bindv (decide (z15.k=2):Bool) fun z31=>
    if z31=true then (
     none
    ) else (
     bindv (decide (z15.k=5):Bool) fun z33=>
     if z33=true then (
      none
     ) else (
      none
     )
    )
   )
  )
 )
def parse_parser_unary (x0:List Tk) (x0s:Int) (x0e:Int) (x0d:Int):Option ((Nd) × (List Tk)):=
 obind (parse_parser_is x0 x0s x0e x0d ([45]:List UInt8)) fun y3=>
 if y3.1=true then (
  none
 ) else (
  obind (parse_parser_primary y3.2 x0s x0e x0d) fun y6=>
  bindv ((fun s10=>
   some (y6.1,s10)
   ):((List (Tk)))→Option ((Nd) × (List Tk))) fun J10=>
  bindv (fun (n12:((List (Tk)))→Option ((Nd) × (List Tk))) (s12:(List (Tk)))=>
   obind (parse_parser_is s12 x0s x0e x0d ([37]:List UInt8)) fun y16=>
   if y16.1=true then (
    none
   ) else (
    J10 y16.2
   )
   ) fun B12=>
  loopF B12 KK y6.2
 )
def parse_parser_expr_B (rec:(List Tk)→Int→Int→Int→Int→Option ((Nd) × (List Tk))) (x0:List Tk) (x0s:Int) (x0e:Int) (x0d:Int) (x1:Int):Option ((Nd) × (List Tk)):=
 bindv (decide (x1=4):Bool) fun z3=>
 if z3=true then (
  obind (parse_parser_unary x0 x0s x0e x0d) fun y5=>
  some (y5.1,y5.2)
 ) else (
  bindv (IntKind.wrap .i64 (x1+1):Int) fun z7=>
  obind (rec x0 x0s x0e x0d z7) fun y8=>
  bindv (fun (n12:((List (Tk)) × Int × Int × Int × Int × (List UInt8) × Int × Int × Int × Bool × Bool × Int × Int × Int × Bool × Bool × (List UInt8) × (List (Nd)) × Int × Int × Int × Int × (List UInt8) × Int × Int × Int × Bool × Bool × Int × Int × Int × Bool × Bool × (List UInt8) × (List (Nd)))→Option ((Nd) × (List Tk))) (s12:(List (Tk)) × Int × Int × Int × Int × (List UInt8) × Int × Int × Int × Bool × Bool × Int × Int × Int × Bool × Bool × (List UInt8) × (List (Nd)) × Int × Int × Int × Int × (List UInt8) × Int × Int × Int × Bool × Bool × Int × Int × Int × Bool × Bool × (List UInt8) × (List (Nd)))=>
   obind (parse_parser_op s12.1 x0s x0e x0d x1) fun y18=>
   bindv (decide (y18.1=0):Bool) fun z21=>
   if z21=true then (
    some (((⟨s12.2.2.2.2.2.2.2.2.2.2.2.2.2.2.2.2.2.2.1,s12.2.2.2.2.2.2.2.2.2.2.2.2.2.2.2.2.2.2.2.1,(⟨s12.2.2.2.2.2.2.2.2.2.2.2.2.2.2.2.2.2.2.2.2.1,s12.2.2.2.2.2.2.2.2.2.2.2.2.2.2.2.2.2.2.2.2.2.1,s12.2.2.2.2.2.2.2.2.2.2.2.2.2.2.2.2.2.2.2.2.2.2.1⟩:V),(⟨(⟨s12.2.2.2.2.2.2.2.2.2.2.2.2.2.2.2.2.2.2.2.2.2.2.2.1,s12.2.2.2.2.2.2.2.2.2.2.2.2.2.2.2.2.2.2.2.2.2.2.2.2.1,s12.2.2.2.2.2.2.2.2.2.2.2.2.2.2.2.2.2.2.2.2.2.2.2.2.2.1⟩:C),s12.2.2.2.2.2.2.2.2.2.2.2.2.2.2.2.2.2.2.2.2.2.2.2.2.2.2.1,s12.2.2.2.2.2.2.2.2.2.2.2.2.2.2.2.2.2.2.2.2.2.2.2.2.2.2.2.1⟩:Rf),(⟨(⟨s12.2.2.2.2.2.2.2.2.2.2.2.2.2.2.2.2.2.2.2.2.2.2.2.2.2.2.2.2.1,s12.2.2.2.2.2.2.2.2.2.2.2.2.2.2.2.2.2.2.2.2.2.2.2.2.2.2.2.2.2.1,s12.2.2.2.2.2.2.2.2.2.2.2.2.2.2.2.2.2.2.2.2.2.2.2.2.2.2.2.2.2.2.1⟩:C),s12.2.2.2.2.2.2.2.2.2.2.2.2.2.2.2.2.2.2.2.2.2.2.2.2.2.2.2.2.2.2.2.1,s12.2.2.2.2.2.2.2.2.2.2.2.2.2.2.2.2.2.2.2.2.2.2.2.2.2.2.2.2.2.2.2.2.1⟩:Rf),s12.2.2.2.2.2.2.2.2.2.2.2.2.2.2.2.2.2.2.2.2.2.2.2.2.2.2.2.2.2.2.2.2.2.1,s12.2.2.2.2.2.2.2.2.2.2.2.2.2.2.2.2.2.2.2.2.2.2.2.2.2.2.2.2.2.2.2.2.2.2⟩:Nd)),y18.2)
   ) else (
    bindv (IntKind.wrap .i64 (x1+1):Int) fun z23=>
    obind (rec y18.2 x0s x0e x0d z23) fun y24=>
    obind (tree_Binary y18.1 (⟨s12.2.2.2.2.2.2.2.2.2.2.2.2.2.2.2.2.2.2.1,s12.2.2.2.2.2.2.2.2.2.2.2.2.2.2.2.2.2.2.2.1,(⟨s12.2.2.2.2.2.2.2.2.2.2.2.2.2.2.2.2.2.2.2.2.1,s12.2.2.2.2.2.2.2.2.2.2.2.2.2.2.2.2.2.2.2.2.2.1,s12.2.2.2.2.2.2.2.2.2.2.2.2.2.2.2.2.2.2.2.2.2.2.1⟩:V),(⟨(⟨s12.2.2.2.2.2.2.2.2.2.2.2.2.2.2.2.2.2.2.2.2.2.2.2.1,s12.2.2.2.2.2.2.2.2.2.2.2.2.2.2.2.2.2.2.2.2.2.2.2.2.1,s12.2.2.2.2.2.2.2.2.2.2.2.2.2.2.2.2.2.2.2.2.2.2.2.2.2.1⟩:C),s12.2.2.2.2.2.2.2.2.2.2.2.2.2.2.2.2.2.2.2.2.2.2.2.2.2.2.1,s12.2.2.2.2.2.2.2.2.2.2.2.2.2.2.2.2.2.2.2.2.2.2.2.2.2.2.2.1⟩:Rf),(⟨(⟨s12.2.2.2.2.2.2.2.2.2.2.2.2.2.2.2.2.2.2.2.2.2.2.2.2.2.2.2.2.1,s12.2.2.2.2.2.2.2.2.2.2.2.2.2.2.2.2.2.2.2.2.2.2.2.2.2.2.2.2.2.1,s12.2.2.2.2.2.2.2.2.2.2.2.2.2.2.2.2.2.2.2.2.2.2.2.2.2.2.2.2.2.2.1⟩:C),s12.2.2.2.2.2.2.2.2.2.2.2.2.2.2.2.2.2.2.2.2.2.2.2.2.2.2.2.2.2.2.2.1,s12.2.2.2.2.2.2.2.2.2.2.2.2.2.2.2.2.2.2.2.2.2.2.2.2.2.2.2.2.2.2.2.2.1⟩:Rf),s12.2.2.2.2.2.2.2.2.2.2.2.2.2.2.2.2.2.2.2.2.2.2.2.2.2.2.2.2.2.2.2.2.2.1,s12.2.2.2.2.2.2.2.2.2.2.2.2.2.2.2.2.2.2.2.2.2.2.2.2.2.2.2.2.2.2.2.2.2.2⟩:Nd) y24.1) fun y26=>
    n12 (y24.2,s12.2.1,s12.2.2.1,s12.2.2.2.1,s12.2.2.2.2.1,s12.2.2.2.2.2.1,s12.2.2.2.2.2.2.1,s12.2.2.2.2.2.2.2.1,s12.2.2.2.2.2.2.2.2.1,s12.2.2.2.2.2.2.2.2.2.1,s12.2.2.2.2.2.2.2.2.2.2.1,s12.2.2.2.2.2.2.2.2.2.2.2.1,s12.2.2.2.2.2.2.2.2.2.2.2.2.1,s12.2.2.2.2.2.2.2.2.2.2.2.2.2.1,s12.2.2.2.2.2.2.2.2.2.2.2.2.2.2.1,s12.2.2.2.2.2.2.2.2.2.2.2.2.2.2.2.1,s12.2.2.2.2.2.2.2.2.2.2.2.2.2.2.2.2.1,s12.2.2.2.2.2.2.2.2.2.2.2.2.2.2.2.2.2.1,y26.k,y26.op,y26.v.k,y26.v.n,y26.v.s,y26.a.c.s,y26.a.c.c,y26.a.c.r,y26.a.ac,y26.a.ar,y26.b.c.s,y26.b.c.c,y26.b.c.r,y26.b.ac,y26.b.ar,y26.nm,y26.l)
   )
   ) fun B12=>
  loopF B12 KK (y8.2,0,0,0,0,[],0,0,0,false,false,0,0,0,false,false,[],[],y8.1.k,y8.1.op,y8.1.v.k,y8.1.v.n,y8.1.v.s,y8.1.a.c.s,y8.1.a.c.c,y8.1.a.c.r,y8.1.a.ac,y8.1.a.ar,y8.1.b.c.s,y8.1.b.c.c,y8.1.b.c.r,y8.1.b.ac,y8.1.b.ar,y8.1.nm,y8.1.l)
 )
def parse_parser_expr:Nat→(List Tk)→Int→Int→Int→Int→Option ((Nd) × (List Tk))
 |0,_,_,_,_,_=>none
 |k+1,x0,x0s,x0e,x0d,x1=>parse_parser_expr_B (parse_parser_expr k) x0 x0s x0e x0d x1
end Go.Sp
end
section
namespace Go.Sp
open Go.Stp Go.ValP
def parse_Parse (x0:List UInt8) (x1:Int):Option (Nd × Int × Int):=
 obind (lex_All x0) fun y4=>
 bindv (!decide (y4.2.2=0):Bool) fun z7=>
 if z7=true then (
  none
 ) else (
  obind (parse_parser_expr KK y4.1 x1 (x0.length:Int) (0:Int) (0:Int)) fun y10=>
  bindv (decide (0<(y10.2.length:Int)):Bool) fun z13=>
  if z13=true then (
   none
  ) else (
   some (y10.1,0,0)
  )
 )
end Go.Sp
end
section
namespace Go.Sp
open Go.Stp Go.ValP
def show_level (x0:Int):Option (Int):=
 bindv (decide (6≤x0):Bool) fun z2=>
 if z2=true then (
  none
 ) else (
  bindv (decide (x0=5):Bool) fun z4=>
  if z4=true then (
   none
  ) else (
   bindv (decide (x0≤2):Bool) fun z6=>
   if z6=true then (
    some 2
   ) else (
    some 3
   )
  )
 )
def show_literal (x0:V):Option ((List UInt8)):=
 bindv (decide (x0.k=0):Bool) fun z3=>
 if z3=true then (
  none
 ) else (
  bindv (decide (x0.k=2):Bool) fun z5=>
  if z5=true then (
   none
  ) else (
   bindv (decide (x0.k=1):Bool) fun z7=>
   bindv (decide (x0.n<0):Bool) fun z8=>
   bindv (z7&&z8:Bool) fun z9=>
   if z9=true then (
    none
   ) else (
    obind (value_Show x0) fun y11=>
    some y11
   )
  )
 )
def show_text_B (rec:Nd→Int→Int→Option ((List UInt8))) (x0:Nd) (x1:Int) (x2:Int):Option ((List UInt8)):=
 bindv (decide (x0.k=1):Bool) fun z4=>
 if z4=true then (
  obind (show_literal x0.v) fun y6=>
  some y6
 ) else (
  bindv (decide (x0.k=2):Bool) fun z7=>
  if z7=true then (
   none
  ) else (
   bindv (decide (x0.k=3):Bool) fun z9=>
   if z9=true then (
    none
   ) else (
    bindv (decide (x0.k=4):Bool) fun z11=>
    if z11=true then (
     none
    ) else (
     bindv (decide (x0.k=8):Bool) fun z13=>
     if z13=true then (
      none
     ) else (
      bindv (decide (x0.k=5):Bool) fun z15=>
      if z15=true then (
       none
      ) else (
       bindv (decide (x0.k=6):Bool) fun z17=>
       if z17=true then (
        none
       ) else (
        obind (show_level x0.op) fun y19=>
        chk ((0:Int)≤0∧0<(x0.l.length:Int))<|
        bindv (gel x0.l 0:Nd) fun z21=>
        obind (rec z21 x1 y19) fun y23=>
        chk (text3.length<4294967281∧(text3.all fun b=>decide (b.toNat<128))=true)<|
        bindv (Lib.fields text3:(List (List UInt8))) fun z26=>
        bindv (IntKind.wrap .i64 (x0.op-1):Int) fun z28=>
        chk ((0:Int)≤z28∧z28<(z26.length:Int))<|
        bindv (gel z26 z28:List UInt8) fun z30=>
        chk (y23.length+z30.length≤9223372036854775807)<|
        bindv (y23++z30:List UInt8) fun z32=>
        chk ((0:Int)≤1∧1<(x0.l.length:Int))<|
        bindv (gel x0.l 1:Nd) fun z34=>
        bindv (IntKind.wrap .i64 (y19+1):Int) fun z36=>
        obind (rec z34 x1 z36) fun y37=>
        chk (z32.length+y37.length≤9223372036854775807)<|
        bindv (z32++y37:List UInt8) fun z39=>
        bindv (decide (y19<x2):Bool) fun z41=>
        if z41=true then (
         none
        ) else (
         some z39
        )
       )
      )
     )
    )
   )
  )
 )
def show_text:Nat→Nd→Int→Int→Option ((List UInt8))
 |0,_,_,_=>none
 |k+1,x0,x1,x2=>show_text_B (show_text k) x0 x1 x2
def show_Formula (x0:Nd) (x1:Int):Option ((List UInt8)):=
 obind (show_text KK x0 x1 (0:Int)) fun y2=>
 some y2
end Go.Sp
end
section
namespace Go.Sp
open Go.Stp Go.ValP
def step_done (x0:Nd):Option (Bool):=
 bindv (decide (x0.k=1):Bool) fun z2=>
 some z2
def step_at (rec:Nd→(List V)→Option (Nd)) (x0:Nd) (x1:Int) (x2:List V):Option (Nd):=
 chk (([]:List (Nd)).length+x0.l.length≤9223372036854775807∧(([]:List (Nd)).length+x0.l.length)*152≤140737488355328)<|
 bindv (([]:List (Nd))++x0.l:List (Nd)) fun z5=>
 chk ((0:Int)≤x1∧x1<(z5.length:Int))<|
 bindv (gel z5 x1:Nd) fun z7=>
 obind (rec z7 x2) fun y9=>
 chk ((0:Int)≤x1∧x1<(z5.length:Int))<|
 bindv (gel z5 x1:Nd) fun z12=>
 bindv (z5.set (Int.toNat x1) y9:List (Nd)) fun zr2_14=>
 some (⟨x0.k,x0.op,x0.v,x0.a,x0.b,x0.nm,zr2_14⟩:Nd)
def step_operator (rec:Nd→(List V)→Option (Nd)) (x0:Nd) (x1:List V):Option (Nd):=
 bindv ((fun s4=>
  bindv (decide (x0.k=7):Bool) fun z7=>
  if z7=true then (
   chk ((0:Int)≤0∧0<(x0.l.length:Int))<|
   bindv (gel x0.l 0:Nd) fun z10=>
   chk ((0:Int)≤1∧1<(x0.l.length:Int))<|
   bindv (gel x0.l 1:Nd) fun z13=>
   obind (funcs_Binary x0.op z10.v z13.v) fun y15=>
   obind (tree_Value y15) fun y16=>
   some y16
  ) else (
   chk ((0:Int)≤0∧0<(x0.l.length:Int))<|
   bindv (gel x0.l 0:Nd) fun z19=>
   obind (funcs_Unary x0.k z19.v) fun y21=>
   obind (tree_Value y21) fun y22=>
   some y22
  )
  ):(Int × Int × Int × Int × (List UInt8) × Int × Int × Int × Bool × Bool × Int × Int × Int × Bool × Bool × (List UInt8) × (List (Nd)))→Option (Nd)) fun J4=>
 bindv (fun (n25:(Int × Int × Int × Int × Int × (List UInt8) × Int × Int × Int × Bool × Bool × Int × Int × Int × Bool × Bool × (List UInt8) × (List (Nd)))→Option (Nd)) (s25:Int × Int × Int × Int × Int × (List UInt8) × Int × Int × Int × Bool × Bool × Int × Int × Int × Bool × Bool × (List UInt8) × (List (Nd)))=>
  bindv (decide (s25.1<(x0.l.length:Int)):Bool) fun z28=>
  if z28=true then (
   chk ((0:Int)≤s25.1∧s25.1<(x0.l.length:Int))<|
   bindv (gel x0.l s25.1:Nd) fun z33=>
   obind (step_done z33) fun y37=>
   bindv (!y37:Bool) fun z38=>
   if z38=true then (
    obind (step_at rec x0 s25.1 x1) fun y40=>
    some y40
   ) else (
    bindv (decide (z33.v.k=4):Bool) fun z42=>
    if z42=true then (
     some z33
    ) else (
     bindv (IntKind.wrap .i64 (s25.1+1):Int) fun z44=>
     n25 (z44,s25.2.1,s25.2.2.1,s25.2.2.2.1,s25.2.2.2.2.1,s25.2.2.2.2.2.1,s25.2.2.2.2.2.2.1,s25.2.2.2.2.2.2.2.1,s25.2.2.2.2.2.2.2.2.1,s25.2.2.2.2.2.2.2.2.2.1,s25.2.2.2.2.2.2.2.2.2.2.1,s25.2.2.2.2.2.2.2.2.2.2.2.1,s25.2.2.2.2.2.2.2.2.2.2.2.2.1,s25.2.2.2.2.2.2.2.2.2.2.2.2.2.1,s25.2.2.2.2.2.2.2.2.2.2.2.2.2.2.1,s25.2.2.2.2.2.2.2.2.2.2.2.2.2.2.2.1,s25.2.2.2.2.2.2.2.2.2.2.2.2.2.2.2.2.1,s25.2.2.2.2.2.2.2.2.2.2.2.2.2.2.2.2.2)
    )
   )
  ) else (
   J4 (s25.2.1,s25.2.2.1,s25.2.2.2.1,s25.2.2.2.2.1,s25.2.2.2.2.2.1,s25.2.2.2.2.2.2.1,s25.2.2.2.2.2.2.2.1,s25.2.2.2.2.2.2.2.2.1,s25.2.2.2.2.2.2.2.2.2.1,s25.2.2.2.2.2.2.2.2.2.2.1,s25.2.2.2.2.2.2.2.2.2.2.2.1,s25.2.2.2.2.2.2.2.2.2.2.2.2.1,s25.2.2.2.2.2.2.2.2.2.2.2.2.2.1,s25.2.2.2.2.2.2.2.2.2.2.2.2.2.2.1,s25.2.2.2.2.2.2.2.2.2.2.2.2.2.2.2.1,s25.2.2.2.2.2.2.2.2.2.2.2.2.2.2.2.2.1,s25.2.2.2.2.2.2.2.2.2.2.2.2.2.2.2.2.2)
  )
  ) fun B25=>
 loopF B25 KK (0,0,0,0,0,[],0,0,0,false,false,0,0,0,false,false,[],[])
def step_strict (rec:Nd→(List V)→Option (Nd)) (x0:Nd) (x1:List V):Option (Nd):=
 bindv ((fun s4=>
  obind (eval_Eval x0 (⟨0,0,0⟩:C) x1) fun y6=>
  obind (tree_Value y6.v) fun y8=>
  some y8
  ):(Int × Int × Int × Int × (List UInt8) × Int × Int × Int × Bool × Bool × Int × Int × Int × Bool × Bool × (List UInt8) × (List (Nd)))→Option (Nd)) fun J4=>
 bindv (fun (n11:(Int × Int × Int × Int × Int × (List UInt8) × Int × Int × Int × Bool × Bool × Int × Int × Int × Bool × Bool × (List UInt8) × (List (Nd)))→Option (Nd)) (s11:Int × Int × Int × Int × Int × (List UInt8) × Int × Int × Int × Bool × Bool × Int × Int × Int × Bool × Bool × (List UInt8) × (List (Nd)))=>
  bindv (decide (s11.1<(x0.l.length:Int)):Bool) fun z14=>
  if z14=true then (
   chk ((0:Int)≤s11.1∧s11.1<(x0.l.length:Int))<|
   bindv (gel x0.l s11.1:Nd) fun z19=>
   obind (eval_Area x1 z19) fun y22=>
   obind (step_done z19) fun y25=>
   bindv (!y25:Bool) fun z26=>
   bindv (!y22.2.2:Bool) fun z27=>
   bindv (z26&&z27:Bool) fun z28=>
   if z28=true then (
    obind (step_at rec x0 s11.1 x1) fun y30=>
    some y30
   ) else (
    bindv (IntKind.wrap .i64 (s11.1+1):Int) fun z32=>
    n11 (z32,s11.2.1,s11.2.2.1,s11.2.2.2.1,s11.2.2.2.2.1,s11.2.2.2.2.2.1,s11.2.2.2.2.2.2.1,s11.2.2.2.2.2.2.2.1,s11.2.2.2.2.2.2.2.2.1,s11.2.2.2.2.2.2.2.2.2.1,s11.2.2.2.2.2.2.2.2.2.2.1,s11.2.2.2.2.2.2.2.2.2.2.2.1,s11.2.2.2.2.2.2.2.2.2.2.2.2.1,s11.2.2.2.2.2.2.2.2.2.2.2.2.2.1,s11.2.2.2.2.2.2.2.2.2.2.2.2.2.2.1,s11.2.2.2.2.2.2.2.2.2.2.2.2.2.2.2.1,s11.2.2.2.2.2.2.2.2.2.2.2.2.2.2.2.2.1,s11.2.2.2.2.2.2.2.2.2.2.2.2.2.2.2.2.2)
   )
  ) else (
   J4 (s11.2.1,s11.2.2.1,s11.2.2.2.1,s11.2.2.2.2.1,s11.2.2.2.2.2.1,s11.2.2.2.2.2.2.1,s11.2.2.2.2.2.2.2.1,s11.2.2.2.2.2.2.2.2.1,s11.2.2.2.2.2.2.2.2.2.1,s11.2.2.2.2.2.2.2.2.2.2.1,s11.2.2.2.2.2.2.2.2.2.2.2.1,s11.2.2.2.2.2.2.2.2.2.2.2.2.1,s11.2.2.2.2.2.2.2.2.2.2.2.2.2.1,s11.2.2.2.2.2.2.2.2.2.2.2.2.2.2.1,s11.2.2.2.2.2.2.2.2.2.2.2.2.2.2.2.1,s11.2.2.2.2.2.2.2.2.2.2.2.2.2.2.2.2.1,s11.2.2.2.2.2.2.2.2.2.2.2.2.2.2.2.2.2)
  )
  ) fun B11=>
 loopF B11 KK (0,0,0,0,0,[],0,0,0,false,false,0,0,0,false,false,[],[])
def step_leads (x0:Nd) (x1:List V):Option (Nd):=
 obind (eval_Area x1 x0) fun y4=>
 if y4.2.2=true then (
  obind (eval_Eval x0 (⟨0,0,0⟩:C) x1) fun y8=>
  obind (tree_Value y8.v) fun y10=>
  some y10
 ) else (
  some x0
 )
def step_taken (x0:Nd) (x1:V) (x2:List V):Option (Nd):=
 bindv (decide (x0.op=5):Bool) fun z5=>
 if z5=true then (
  obind (value_ToNum x1) fun y7=>
  bindv (decide (y7.k=4):Bool) fun z10=>
  if z10=true then (
   obind (tree_Value y7) fun y12=>
   some y12
  ) else (
   bindv (IntKind.wrap .i64 (Int.tdiv y7.n 1000000):Int) fun z15=>
   bindv (decide (1≤z15):Bool) fun z16=>
   bindv (decide (z15<(x0.l.length:Int)):Bool) fun z17=>
   bindv (z16&&z17:Bool) fun z18=>
   if z18=true then (
    chk ((0:Int)≤z15∧z15<(x0.l.length:Int))<|
    bindv (gel x0.l z15:Nd) fun z21=>
    obind (step_leads z21 x2) fun y23=>
    some y23
   ) else (
    obind (value_Fail (2:Int)) fun y25=>
    obind (tree_Value y25) fun y26=>
    some y26
   )
  )
 ) else (
  obind (value_ToBool x1) fun y28=>
  bindv (decide (y28.k=4):Bool) fun z31=>
  if z31=true then (
   obind (tree_Value y28) fun y33=>
   some y33
  ) else (
   bindv (decide (y28.n=1):Bool) fun z35=>
   if z35=true then (
    chk ((0:Int)≤1∧1<(x0.l.length:Int))<|
    bindv (gel x0.l 1:Nd) fun z38=>
    obind (step_leads z38 x2) fun y40=>
    some y40
   ) else (
    bindv (decide ((x0.l.length:Int)=3):Bool) fun z42=>
    if z42=true then (
     chk ((0:Int)≤2∧2<(x0.l.length:Int))<|
     bindv (gel x0.l 2:Nd) fun z45=>
     obind (step_leads z45 x2) fun y47=>
     some y47
    ) else (
     obind (value_Bool false) fun y49=>
     obind (tree_Value y49) fun y50=>
     some y50
    )
   )
  )
 )
def step_lazy (rec:Nd→(List V)→Option (Nd)) (x0:Nd) (x1:List V):Option (Nd):=
 chk ((0:Int)≤0∧0<(x0.l.length:Int))<|
 bindv (gel x0.l 0:Nd) fun z4=>
 obind (step_done z4) fun y8=>
 bindv (!y8:Bool) fun z9=>
 if z9=true then (
  obind (step_at rec x0 (0:Int) x1) fun y11=>
  some y11
 ) else (
  bindv (decide (x0.op=2):Bool) fun z16=>
  if z16=true then (
   bindv (decide (z4.v.k=4):Bool) fun z19=>
   if z19=true then (
    chk ((0:Int)≤1∧1<(x0.l.length:Int))<|
    bindv (gel x0.l 1:Nd) fun z22=>
    obind (step_leads z22 x1) fun y24=>
    some y24
   ) else (
    some z4
   )
  ) else (
   bindv ((fun s27=>
    if s27=true then (
     bindv (decide (z4.v.k=4):Bool) fun z30=>
     if z30=true then (
      some z4
     ) else (
      obind (step_taken x0 z4.v x1) fun y32=>
      some y32
     )
    ) else (
     obind (value_ToBool z4.v) fun y34=>
     bindv (decide (y34.k=4):Bool) fun z37=>
     bindv (decide (y34.n=1):Bool) fun z38=>
     bindv (decide (x0.op=4):Bool) fun z39=>
     bindv (z38 == z39:Bool) fun z40=>
     bindv (z37||z40:Bool) fun z41=>
     bindv (decide ((x0.l.length:Int)=1):Bool) fun z42=>
     bindv (z41||z42:Bool) fun z43=>
     if z43=true then (
      obind (tree_Value y34) fun y45=>
      some y45
     ) else (
      chk ((0:Int)≤(1:Int)∧(1:Int)≤(x0.l.length:Int)∧(x0.l.length:Int)≤(x0.l.length:Int))<|
      bindv (cutL x0.l (1:Int) (x0.l.length:Int):List (Nd)) fun z48=>
      some (⟨x0.k,x0.op,x0.v,x0.a,x0.b,x0.nm,z48⟩:Nd)
     )
    )
    ):(Bool)→Option (Nd)) fun J27=>
   bindv (decide (x0.op=5):Bool) fun z50=>
   if z50=true then (
    J27 z50
   ) else (
    bindv (decide (x0.op=1):Bool) fun z52=>
    J27 z52
   )
  )
 )
def step_One_B (rec:Nd→(List V)→Option (Nd)) (x0:Nd) (x1:List V):Option (Nd):=
 bindv (decide (x0.k=1):Bool) fun z5=>
 if z5=true then (
  some x0
 ) else (
  bindv ((fun s8=>
   if s8=true then (
    obind (eval_Eval x0 (⟨0,0,0⟩:C) x1) fun y10=>
    obind (tree_Value y10.v) fun y12=>
    some y12
   ) else (
    bindv ((fun s15=>
     if s15=true then (
      obind (step_operator rec x0 x1) fun y17=>
      some y17
     ) else (
      bindv (decide (x0.op≤5):Bool) fun z20=>
      if z20=true then (
       obind (step_lazy rec x0 x1) fun y22=>
       some y22
      ) else (
       obind (step_strict rec x0 x1) fun y24=>
       some y24
      )
     )
     ):(Bool)→Option (Nd)) fun J15=>
    bindv (decide (x0.k=5):Bool) fun z26=>
    if z26=true then (
     J15 z26
    ) else (
     bindv (decide (x0.k=6):Bool) fun z28=>
     if z28=true then (
      J15 z28
     ) else (
      bindv (decide (x0.k=7):Bool) fun z30=>
      J15 z30
     )
    )
   )
   ):(Bool)→Option (Nd)) fun J8=>
  bindv (decide (x0.k=2):Bool) fun z31=>
  if z31=true then (
   J8 z31
  ) else (
   bindv (decide (x0.k=3):Bool) fun z33=>
   if z33=true then (
    J8 z33
   ) else (
    bindv (decide (x0.k=4):Bool) fun z35=>
    J8 z35
   )
  )
 )
def step_One:Nat→Nd→(List V)→Option (Nd)
 |0,_,_=>none
 |k+1,x0,x1=>step_One_B (step_One k) x0 x1
def step_All (x0:Nd) (x1:List V):Option ((List (Nd))):=
 bindv ((fun s4=>
  some s4.2.2.2.2.2.2.2.2.2.2.2.2.2.2.2.2.2
  ):(Int × Int × Int × Int × (List UInt8) × Int × Int × Int × Bool × Bool × Int × Int × Int × Bool × Bool × (List UInt8) × (List (Nd)) × (List (Nd)))→Option ((List (Nd)))) fun J4=>
 obind (tree_Size KK x0) fun y7=>
 bindv (IntKind.wrap .i64 (2*y7):Int) fun z8=>
 bindv (fun (n10:(Int × Int × Int × Int × Int × (List UInt8) × Int × Int × Int × Bool × Bool × Int × Int × Int × Bool × Bool × (List UInt8) × (List (Nd)) × (List (Nd)))→Option ((List (Nd)))) (s10:Int × Int × Int × Int × Int × (List UInt8) × Int × Int × Int × Bool × Bool × Int × Int × Int × Bool × Bool × (List UInt8) × (List (Nd)) × (List (Nd)))=>
  bindv (decide (s10.1<z8):Bool) fun z14=>
  if z14=true then (
   obind (step_done (⟨s10.2.1,s10.2.2.1,(⟨s10.2.2.2.1,s10.2.2.2.2.1,s10.2.2.2.2.2.1⟩:V),(⟨(⟨s10.2.2.2.2.2.2.1,s10.2.2.2.2.2.2.2.1,s10.2.2.2.2.2.2.2.2.1⟩:C),s10.2.2.2.2.2.2.2.2.2.1,s10.2.2.2.2.2.2.2.2.2.2.1⟩:Rf),(⟨(⟨s10.2.2.2.2.2.2.2.2.2.2.2.1,s10.2.2.2.2.2.2.2.2.2.2.2.2.1,s10.2.2.2.2.2.2.2.2.2.2.2.2.2.1⟩:C),s10.2.2.2.2.2.2.2.2.2.2.2.2.2.2.1,s10.2.2.2.2.2.2.2.2.2.2.2.2.2.2.2.1⟩:Rf),s10.2.2.2.2.2.2.2.2.2.2.2.2.2.2.2.2.1,s10.2.2.2.2.2.2.2.2.2.2.2.2.2.2.2.2.2.1⟩:Nd)) fun y19=>
   if y19=true then (
    J4 (s10.2.1,s10.2.2.1,s10.2.2.2.1,s10.2.2.2.2.1,s10.2.2.2.2.2.1,s10.2.2.2.2.2.2.1,s10.2.2.2.2.2.2.2.1,s10.2.2.2.2.2.2.2.2.1,s10.2.2.2.2.2.2.2.2.2.1,s10.2.2.2.2.2.2.2.2.2.2.1,s10.2.2.2.2.2.2.2.2.2.2.2.1,s10.2.2.2.2.2.2.2.2.2.2.2.2.1,s10.2.2.2.2.2.2.2.2.2.2.2.2.2.1,s10.2.2.2.2.2.2.2.2.2.2.2.2.2.2.1,s10.2.2.2.2.2.2.2.2.2.2.2.2.2.2.2.1,s10.2.2.2.2.2.2.2.2.2.2.2.2.2.2.2.2.1,s10.2.2.2.2.2.2.2.2.2.2.2.2.2.2.2.2.2.1,s10.2.2.2.2.2.2.2.2.2.2.2.2.2.2.2.2.2.2)
   ) else (
    obind (step_One KK (⟨s10.2.1,s10.2.2.1,(⟨s10.2.2.2.1,s10.2.2.2.2.1,s10.2.2.2.2.2.1⟩:V),(⟨(⟨s10.2.2.2.2.2.2.1,s10.2.2.2.2.2.2.2.1,s10.2.2.2.2.2.2.2.2.1⟩:C),s10.2.2.2.2.2.2.2.2.2.1,s10.2.2.2.2.2.2.2.2.2.2.1⟩:Rf),(⟨(⟨s10.2.2.2.2.2.2.2.2.2.2.2.1,s10.2.2.2.2.2.2.2.2.2.2.2.2.1,s10.2.2.2.2.2.2.2.2.2.2.2.2.2.1⟩:C),s10.2.2.2.2.2.2.2.2.2.2.2.2.2.2.1,s10.2.2.2.2.2.2.2.2.2.2.2.2.2.2.2.1⟩:Rf),s10.2.2.2.2.2.2.2.2.2.2.2.2.2.2.2.2.1,s10.2.2.2.2.2.2.2.2.2.2.2.2.2.2.2.2.2.1⟩:Nd) x1) fun y21=>
    chk (s10.2.2.2.2.2.2.2.2.2.2.2.2.2.2.2.2.2.2.length+[y21].length≤9223372036854775807∧(s10.2.2.2.2.2.2.2.2.2.2.2.2.2.2.2.2.2.2.length+[y21].length)*152≤140737488355328)<|
    bindv (s10.2.2.2.2.2.2.2.2.2.2.2.2.2.2.2.2.2.2++[y21]:List (Nd)) fun z26=>
    bindv (IntKind.wrap .i64 (s10.1+1):Int) fun z27=>
    n10 (z27,y21.k,y21.op,y21.v.k,y21.v.n,y21.v.s,y21.a.c.s,y21.a.c.c,y21.a.c.r,y21.a.ac,y21.a.ar,y21.b.c.s,y21.b.c.c,y21.b.c.r,y21.b.ac,y21.b.ar,y21.nm,y21.l,z26)
   )
  ) else (
   J4 (s10.2.1,s10.2.2.1,s10.2.2.2.1,s10.2.2.2.2.1,s10.2.2.2.2.2.1,s10.2.2.2.2.2.2.1,s10.2.2.2.2.2.2.2.1,s10.2.2.2.2.2.2.2.2.1,s10.2.2.2.2.2.2.2.2.2.1,s10.2.2.2.2.2.2.2.2.2.2.1,s10.2.2.2.2.2.2.2.2.2.2.2.1,s10.2.2.2.2.2.2.2.2.2.2.2.2.1,s10.2.2.2.2.2.2.2.2.2.2.2.2.2.1,s10.2.2.2.2.2.2.2.2.2.2.2.2.2.2.1,s10.2.2.2.2.2.2.2.2.2.2.2.2.2.2.2.1,s10.2.2.2.2.2.2.2.2.2.2.2.2.2.2.2.2.1,s10.2.2.2.2.2.2.2.2.2.2.2.2.2.2.2.2.2.1,s10.2.2.2.2.2.2.2.2.2.2.2.2.2.2.2.2.2.2)
  )
  ) fun B10=>
 loopF B10 KK (0,x0.k,x0.op,x0.v.k,x0.v.n,x0.v.s,x0.a.c.s,x0.a.c.c,x0.a.c.r,x0.a.ac,x0.a.ar,x0.b.c.s,x0.b.c.c,x0.b.c.r,x0.b.ac,x0.b.ar,x0.nm,x0.l,[x0])
end Go.Sp
end
section
namespace Go.Sp
open Go.Stp Go.ValP
def reckonerlaw14_fit  : Option (Bool):=
 obind (parse_Parse ([49,43,50,42,51]:List UInt8) (0:Int)) fun y1=>
 obind (step_All y1.1 zeroPl) fun y6=>
 bindv (decide (y1.2.2=0):Bool) fun z9=>
 bindv (decide ((y6.length:Int)=3):Bool) fun z10=>
 bindv (z9&&z10:Bool) fun z11=>
 chk (z11=true→(0:Int)≤2∧2<(y6.length:Int))<|
 bindv (gel y6 2:Nd) fun z13=>
 obind (if z11=true then value_Num (7000000:Int) else some default) fun y15=>
 bindv ((decide (z13.v.k=y15.k)&&(decide (z13.v.n=y15.n)&&decide (z13.v.s=y15.s))):Bool) fun z16=>
 bindv (z11&&z16:Bool) fun z17=>
 chk (z17=true→(0:Int)≤1∧1<(y6.length:Int))<|
 bindv (gel y6 1:Nd) fun z19=>
 obind (if z17=true then show_Formula z19 (0:Int) else some default) fun y21=>
 bindv (decide (y21=([49,43,54]:List UInt8)):Bool) fun z22=>
 bindv (z17&&z22:Bool) fun z23=>
 some z23
end Go.Sp
end
section
namespace Go.Sp
open Go.Stp Go.ValP
def reckonerlaw05_ref (x0:Int) (x1:Int):Option (Rf):=
 bindv (bits .and .i64 x0 1:Int) fun z2=>
 bindv (decide (z2=1):Bool) fun z3=>
 bindv (bits .and .i64 x0 2:Int) fun z4=>
 bindv (decide (z4=2):Bool) fun z5=>
 bindv (decide (x1=4):Bool) fun z6=>
 bindv (z5&&z6:Bool) fun z7=>
 bindv (bits .and .i64 x0 3:Int) fun z9=>
 bindv (IntKind.wrap .i64 (Int.tdiv x0 4):Int) fun z10=>
 bindv (bits .and .i64 z10 3:Int) fun z11=>
 bindv ((fun s13=>
  some (⟨(⟨s13,z9,z11⟩:C),z3,z7⟩:Rf)
  ):(Int)→Option (Rf)) fun J13=>
 bindv (decide (x1=4):Bool) fun z14=>
 bindv (decide (11<x0):Bool) fun z15=>
 bindv (z14&&z15:Bool) fun z16=>
 if z16=true then (
  J13 1
 ) else (
  J13 0
 )
def reckonerlaw05_Seed_Formula_B (rec:(List Int)→Int→Option ((Nd) × (List Int))) (x0:List Int) (x1:Int):Option ((Nd) × (List Int)):=
 bindv ((fun s3=>
  bindv (Int.tmod s3.1 16:Int) fun z5=>
  bindv ((fun s7=>
   bindv (decide (s7<2):Bool) fun z9=>
   if z9=true then (
    bindv (IntKind.wrap .i64 (Int.tdiv s3.1 16):Int) fun z11=>
    bindv (IntKind.wrap .i64 (z11*500000):Int) fun z12=>
    obind (value_Num z12) fun y13=>
    obind (tree_Value y13) fun y14=>
    some (y14,s3.2)
   ) else (
    bindv (decide (s7=2):Bool) fun z16=>
    if z16=true then (
     obind (value_Text ([97,34,98]:List UInt8)) fun y18=>
     obind (tree_Value y18) fun y19=>
     bindv (bits .and .i64 s3.1 16:Int) fun z21=>
     bindv (decide (z21=0):Bool) fun z22=>
     obind (value_Bool z22) fun y23=>
     obind (tree_Value y23) fun y24=>
     bindv (IntKind.wrap .i64 (Int.tdiv s3.1 16):Int) fun z26=>
     bindv (Int.tmod z26 7:Int) fun z27=>
     bindv (IntKind.wrap .i64 (z27+1):Int) fun z28=>
     obind (value_Fail z28) fun y29=>
     obind (tree_Value y29) fun y30=>
     obind (tree_Value (⟨0,0,[]⟩:V)) fun y32=>
     bindv (IntKind.wrap .i64 (Int.tdiv s3.1 64):Int) fun z35=>
     chk ((0:Int)≤z35∧z35<([y19,y24,y30,y32].length:Int))<|
     bindv (gel [y19,y24,y30,y32] z35:Nd) fun z37=>
     some (z37,s3.2)
    ) else (
     bindv (decide (s7<5):Bool) fun z39=>
     if z39=true then (
      bindv (IntKind.wrap .i64 (Int.tdiv s3.1 16):Int) fun z41=>
      obind (reckonerlaw05_ref z41 s7) fun y42=>
      obind (tree_Cell y42) fun y43=>
      some (y43,s3.2)
     ) else (
      bindv (decide (s7=5):Bool) fun z45=>
      if z45=true then (
       bindv (IntKind.wrap .i64 (Int.tdiv s3.1 16):Int) fun z47=>
       obind (reckonerlaw05_ref z47 (3:Int)) fun y48=>
       bindv (bits .and .i64 s3.1 1:Int) fun z51=>
       bindv (IntKind.wrap .i64 (y48.c.c+z51):Int) fun z52=>
       bindv (IntKind.wrap .i64 (Int.tdiv s3.1 32):Int) fun z53=>
       bindv (Int.tmod z53 3:Int) fun z54=>
       bindv (IntKind.wrap .i64 (y48.c.r+z54):Int) fun z55=>
       obind (tree_Span y48 (⟨(⟨y48.c.s,z52,z55⟩:C),y48.ac,y48.ar⟩:Rf)) fun y56=>
       some (y56,s3.2)
      ) else (
       bindv (decide (s7=6):Bool) fun z58=>
       if z58=true then (
        bindv (IntKind.wrap .i64 (x1-1):Int) fun z60=>
        obind (rec s3.2 z60) fun y61=>
        obind (tree_Unary (5:Int) y61.1) fun y63=>
        some (y63,y61.2)
       ) else (
        bindv (decide (s7=7):Bool) fun z65=>
        if z65=true then (
         bindv (IntKind.wrap .i64 (x1-1):Int) fun z67=>
         obind (rec s3.2 z67) fun y68=>
         obind (tree_Unary (6:Int) y68.1) fun y70=>
         some (y70,y68.2)
        ) else (
         bindv (decide (s7<12):Bool) fun z72=>
         if z72=true then (
          bindv (IntKind.wrap .i64 (x1-1):Int) fun z74=>
          obind (rec s3.2 z74) fun y75=>
          bindv (Int.tmod s3.1 11:Int) fun z78=>
          bindv (IntKind.wrap .i64 (z78+1):Int) fun z79=>
          bindv (IntKind.wrap .i64 (x1-1):Int) fun z80=>
          obind (rec y75.2 z80) fun y81=>
          obind (tree_Binary z79 y75.1 y81.1) fun y83=>
          some (y83,y81.2)
         ) else (
          bindv (IntKind.wrap .i64 (Int.tdiv s3.1 4):Int) fun z85=>
          bindv (Int.tmod z85 54:Int) fun z86=>
          bindv (IntKind.wrap .i64 (z86+1):Int) fun z87=>
          bindv ((fun s89=>
           bindv ((fun s91=>
            obind (tree_Apply s89 s91.2) fun y95=>
            some (y95,s91.1)
            ):((List (Int)) × (List (Nd)))→Option ((Nd) × (List Int))) fun J91=>
           bindv (fun (n97:((List (Int)) × (List (Nd)))→Option ((Nd) × (List Int))) (s97:(List (Int)) × (List (Nd)))=>
            bindv (decide ((s97.2.length:Int)<9):Bool) fun z102=>
            obind (if z102=true then tree_Fits s89 (s97.2.length:Int) else some default) fun y103=>
            bindv (!y103:Bool) fun z104=>
            bindv (z102&&z104:Bool) fun z105=>
            if z105=true then (
             bindv (IntKind.wrap .i64 (x1-1):Int) fun z108=>
             obind (rec s97.1 z108) fun y109=>
             chk (s97.2.length+[y109.1].length≤9223372036854775807∧(s97.2.length+[y109.1].length)*152≤140737488355328)<|
             bindv (s97.2++[y109.1]:List (Nd)) fun z114=>
             n97 (y109.2,z114)
            ) else (
             J91 (s97.1,s97.2)
            )
            ) fun B97=>
           loopF B97 KK (s3.2,([]:List (Nd)))
           ):(Int)→Option ((Nd) × (List Int))) fun J89=>
          bindv (decide (0<(s3.2.length:Int)):Bool) fun z115=>
          if z115=true then (
           chk ((0:Int)≤0∧0<(s3.2.length:Int))<|
           bindv (gel s3.2 0:Int) fun z118=>
           bindv (IntKind.wrap .i64 z118:Int) fun z119=>
           bindv (Int.tmod z119 54:Int) fun z120=>
           bindv (IntKind.wrap .i64 (z120+1):Int) fun z121=>
           J89 z121
          ) else (
           J89 z87
          )
         )
        )
       )
      )
     )
    )
   )
   ):(Int)→Option ((Nd) × (List Int))) fun J7=>
  bindv (decide (x1≤0):Bool) fun z122=>
  bindv (decide ((s3.2.length:Int)=0):Bool) fun z123=>
  bindv (z122||z123:Bool) fun z124=>
  if z124=true then (
   bindv (Int.tmod s3.1 6:Int) fun z126=>
   J7 z126
  ) else (
   J7 z5
  )
  ):(Int × (List (Int)))→Option ((Nd) × (List Int))) fun J3=>
 bindv (decide (0<(x0.length:Int)):Bool) fun z127=>
 if z127=true then (
  chk ((0:Int)≤0∧0<(x0.length:Int))<|
  bindv (gel x0 0:Int) fun z130=>
  bindv (IntKind.wrap .i64 z130:Int) fun z131=>
  chk ((0:Int)≤(1:Int)∧(1:Int)≤(x0.length:Int)∧(x0.length:Int)≤(x0.length:Int))<|
  bindv (cutL x0 (1:Int) (x0.length:Int):List (Int)) fun z133=>
  J3 (z131,z133)
 ) else (
  J3 (0,x0)
 )
def reckonerlaw05_Seed_Formula:Nat→(List Int)→Int→Option ((Nd) × (List Int))
 |0,_,_=>none
 |k+1,x0,x1=>reckonerlaw05_Seed_Formula_B (reckonerlaw05_Seed_Formula k) x0 x1
end Go.Sp
end
section
namespace Go.Sp
open Go.Stp Go.ValP
def reckonerlaw14_StepEnds (x0:List (Int)) (x1:List (V)):Option (Bool):=
 obind (reckonerlaw14_fit) fun y3=>
 bindv (!y3:Bool) fun z4=>
 if z4=true then (
  some false
 ) else (
  bindv (decide (100<(x0.length:Int)):Bool) fun z7=>
  bindv (decide (150<(x1.length:Int)):Bool) fun z8=>
  bindv (z7||z8:Bool) fun z9=>
  if z9=true then (
   some true
  ) else (
   obind (reckonerlaw05_Seed_Formula KK x0 (5:Int)) fun y11=>
   obind (reckonerlaw13_Place x1) fun y14=>
   obind (step_All y11.1 y14) fun y17=>
   obind (eval_Eval y11.1 (⟨0,0,0⟩:C) y14) fun y20=>
   bindv (IntKind.wrap .i64 ((y17.length:Int)-1):Int) fun z23=>
   chk ((0:Int)≤z23∧z23<(y17.length:Int))<|
   bindv (gel y17 z23:Nd) fun z25=>
   obind (tree_Size KK y11.1) fun y29=>
   bindv (IntKind.wrap .i64 (2*y29):Int) fun z30=>
   bindv (IntKind.wrap .i64 (z30+1):Int) fun z31=>
   bindv (decide (z31<(y17.length:Int)):Bool) fun z32=>
   bindv (!decide (z25.k=1):Bool) fun z33=>
   bindv (z32||z33:Bool) fun z34=>
   bindv (!((decide (z25.v.k=y20.v.k)&&(decide (z25.v.n=y20.v.n)&&decide (z25.v.s=y20.v.s)))):Bool) fun z35=>
   bindv (z34||z35:Bool) fun z36=>
   chk ((!z36)=true→(0:Int)≤0∧0<(y17.length:Int))<|
   bindv (gel y17 0:Nd) fun z38=>
   obind (if (!z36)=true then tree_Same KK z38 y11.1 else some default) fun y40=>
   bindv (!y40:Bool) fun z41=>
   bindv (z36||z41:Bool) fun z42=>
   if z42=true then (
    some false
   ) else (
    obind (step_One KK z25 y14) fun y44=>
    obind (tree_Same KK y44 z25) fun y46=>
    some y46
   )
  )
 )
end Go.Sp
end
