/- Joined texts. -/
import Derived.Lib.Fields
import Derived.Lib.Index
import Derived.Lib.Join
import Derived.Lib.Replace
import Derived.Lib.Strings
import Derived.Lib.Bytealg
import Derived.Lib.Repeat
import Derived.Lib.BitFns
import Derived.Lib.ItoaNum
import Derived.Test.YtcecjdnkcbfhlaaGreatDoorEL0
import Derived.Test.YtcecjdnkcbfhlaaGreatDoorEL1
set_option linter.unusedSimpArgs false
set_option linter.unusedVariables false
set_option linter.unusedSectionVars false
section
namespace Go.Sp
open Go.Stp Go.ValP
def value_Num (x0:Int):Option (V):=
 some (⟨1,x0,[]⟩:V)
def value_Fail (x0:Int):Option (V):=
 some (⟨4,x0,[]⟩:V)
def value_Bool (x0:Bool):Option (V):=
 bindv ((fun s4=>
  some (⟨3,s4,[]⟩:V)
  ):(Int)→Option (V)) fun J4=>
 if x0=true then (
  J4 1
 ) else (
  J4 0
 )
def value_Text (x0:List UInt8):Option (V):=
 bindv (decide (64<(x0.length:Int)):Bool) fun z3=>
 if z3=true then (
  obind (value_Fail (2:Int)) fun y5=>
  some y5
 ) else (
  some (⟨2,0,x0⟩:V)
 )
def value_Made (x0:Int) (x1:Bool):Option (V):=
 bindv (!x1:Bool) fun z3=>
 if z3=true then (
  obind (value_Fail (5:Int)) fun y5=>
  some y5
 ) else (
  obind (value_Num x0) fun y6=>
  some y6
 )
def value_Right (x0:V):Option (Bool):=
 bindv (decide (x0.k=0):Bool) fun z4=>
 if z4=true then (
  bindv (decide (x0.n=0):Bool) fun z6=>
  bindv (decide (x0.s=[]):Bool) fun z7=>
  bindv (z6&&z7:Bool) fun z8=>
  some z8
 ) else (
  bindv (decide (x0.k=1):Bool) fun z9=>
  if z9=true then (
   bindv (!decide (x0.n=(-9223372036854775808)):Bool) fun z11=>
   bindv (decide (x0.s=[]):Bool) fun z12=>
   bindv (z11&&z12:Bool) fun z13=>
   some z13
  ) else (
   bindv (decide (x0.k=2):Bool) fun z14=>
   if z14=true then (
    bindv (decide (x0.n=0):Bool) fun z16=>
    bindv (decide ((x0.s.length:Int)≤64):Bool) fun z17=>
    bindv (z16&&z17:Bool) fun z18=>
    some z18
   ) else (
    bindv (decide (x0.k=3):Bool) fun z19=>
    if z19=true then (
     bindv (bits .and .i64 x0.n 1:Int) fun z21=>
     bindv (decide (z21=x0.n):Bool) fun z22=>
     bindv (decide (x0.s=[]):Bool) fun z23=>
     bindv (z22&&z23:Bool) fun z24=>
     some z24
    ) else (
     bindv (decide (x0.k=4):Bool) fun z25=>
     if z25=true then (
      bindv (decide (1≤x0.n):Bool) fun z27=>
      bindv (decide (x0.n≤7):Bool) fun z28=>
      bindv (z27&&z28:Bool) fun z29=>
      bindv (decide (x0.s=[]):Bool) fun z30=>
      bindv (z29&&z30:Bool) fun z31=>
      some z31
     ) else (
      some false
     )
    )
   )
  )
 )
def value_like (x0:V) (x1:V):Option (V):=
 bindv (!decide (x0.k=0):Bool) fun z5=>
 if z5=true then (
  some x0
 ) else (
  bindv (decide (x1.k=2):Bool) fun z9=>
  if z9=true then (
   obind (value_Text []) fun y11=>
   some y11
  ) else (
   bindv (decide (x1.k=3):Bool) fun z12=>
   if z12=true then (
    obind (value_Bool false) fun y14=>
    some y14
   ) else (
    obind (value_Num (0:Int)) fun y15=>
    some y15
   )
  )
 )
def value_rank (x0:V):Option (Int):=
 some x0.k
def num_fits (x0:Int):Option (Bool):=
 bindv (decide ((-9223372036854775807)≤x0):Bool) fun z1=>
 some z1
def num_Add (x0:Int) (x1:Int):Option (Int × Bool):=
 bindv (IntKind.wrap .i64 (x0+x1):Int) fun z1=>
 obind (num_fits z1) fun y2=>
 bindv (decide (x0<z1):Bool) fun z3=>
 bindv (decide (0<x1):Bool) fun z4=>
 bindv (z3 == z4:Bool) fun z5=>
 bindv (y2&&z5:Bool) fun z6=>
 some (z1,z6)
def num_Sub (x0:Int) (x1:Int):Option (Int × Bool):=
 bindv (IntKind.wrap .i64 (-x1):Int) fun z1=>
 obind (num_Add x0 z1) fun y2=>
 some (y2.1,y2.2)
def num_abs (x0:Int):Option (Int):=
 bindv (decide (x0<0):Bool) fun z2=>
 if z2=true then (
  bindv (IntKind.wrap .u64 x0:Int) fun z4=>
  bindv (IntKind.wrap .u64 (-z4):Int) fun z5=>
  some z5
 ) else (
  bindv (IntKind.wrap .u64 x0:Int) fun z6=>
  some z6
 )
def num_signed (x0:Int) (x1:Bool):Option (Int × Bool):=
 bindv (decide (9223372036854775807<x0):Bool) fun z2=>
 if z2=true then (
  some (0,false)
 ) else (
  if x1=true then (
   bindv (IntKind.wrap .i64 x0:Int) fun z6=>
   bindv (IntKind.wrap .i64 (-z6):Int) fun z7=>
   some (z7,true)
  ) else (
   bindv (IntKind.wrap .i64 x0:Int) fun z8=>
   some (z8,true)
  )
 )
end Go.Sp
end
section
namespace Go.Sp
open Go.Stp Go.ValP
def text0:List UInt8:=[35,68,73,86,47,48,33,32,35,86,65,76,85,69,33,32,35,82,69,70,33,32,35,78,65,77,69,63,32,35,78,85,77,33,32,35,78,47,65,32,35,67,89,67,76,69,33]
def value_ErrorName (x0:Int):Option ((List UInt8)):=
 chk (text0.length<4294967281∧(text0.all fun b=>decide (b.toNat<128))=true)<|
 bindv (Lib.fields text0:(List (List UInt8))) fun z3=>
 bindv (decide (x0<1):Bool) fun z6=>
 bindv (decide ((z3.length:Int)<x0):Bool) fun z7=>
 bindv (z6||z7:Bool) fun z8=>
 if z8=true then (
  some []
 ) else (
  bindv (IntKind.wrap .i64 (x0-1):Int) fun z10=>
  chk ((0:Int)≤z10∧z10<(z3.length:Int))<|
  bindv (gel z3 z10:List UInt8) fun z12=>
  some z12
 )
def num_Parse (x0:List UInt8):Option (Int × Bool):=
 bindv ((fun s2=>
  bindv ((fun s4=>
   bindv (decide (s2.2.2=0):Bool) fun z6=>
   bindv (decide (s2.2.1=0):Bool) fun z7=>
   bindv (z6||z7:Bool) fun z8=>
   if z8=true then (
    some (0,false)
   ) else (
    obind (num_signed s4 false) fun y10=>
    some (y10.1,y10.2)
   )
   ):(Int)→Option (Int × Bool)) fun J4=>
  bindv (max s2.2.1 0:Int) fun z11=>
  bindv (fun (n13:(Int × Int)→Option (Int × Bool)) (s13:Int × Int)=>
   bindv (decide (s13.2<6):Bool) fun z16=>
   if z16=true then (
    chk ((0≤s13.1∧s13.1≤18446744073709551615)∧0≤(10:Int)∧(10:Int)≤18446744073709551615)<|
    bindv ((s13.1*(10:Int) / 18446744073709551616,s13.1*(10:Int) % 18446744073709551616):Int × Int) fun z21=>
    bindv (decide (0<z21.1):Bool) fun z23=>
    if z23=true then (
     some (0,false)
    ) else (
     bindv (IntKind.wrap .i64 (s13.2+1):Int) fun z25=>
     n13 (z21.2,z25)
    )
   ) else (
    J4 s13.1
   )
   ) fun B13=>
  loopF B13 KK (s2.1,z11)
  ):(Int × Int × Int)→Option (Int × Bool)) fun J2=>
 bindv (fun (n28:(Int × Int × Int × Nat)→Option (Int × Bool)) (s28:Int × Int × Int × Nat)=>
  bindv (decide (s28.2.2.2<x0.length):Bool) fun z30=>
  if z30=true then (
   bindv ((fun s35=>
    chk ((0≤s28.1∧s28.1≤18446744073709551615)∧0≤(10:Int)∧(10:Int)≤18446744073709551615)<|
    bindv ((s28.1*(10:Int) / 18446744073709551616,s28.1*(10:Int) % 18446744073709551616):Int × Int) fun z38=>
    bindv (IntKind.wrap .i32 ((rn x0 s28.2.2.2)-48):Int) fun z39=>
    bindv (IntKind.wrap .u64 z39:Int) fun z40=>
    chk (0≤z38.2∧0≤z40∧0≤(0:Int)∧(0:Int)≤1)<|
    bindv (((z38.2+z40+(0:Int)) % 18446744073709551616,(z38.2+z40+(0:Int)) / 18446744073709551616):Int × Int) fun z43=>
    bindv (IntKind.wrap .u64 (z38.1+z43.2):Int) fun z45=>
    bindv (decide (0<z45):Bool) fun z46=>
    if z46=true then (
     some (0,false)
    ) else (
     bindv (IntKind.wrap .i64 (s28.2.2.1+1):Int) fun z48=>
     n28 (z43.1,s35,z48,nextP x0 s28.2.2.2)
    )
    ):(Int)→Option (Int × Bool)) fun J35=>
   bindv (decide ((rn x0 s28.2.2.2)=46):Bool) fun z49=>
   bindv (decide (s28.2.1<0):Bool) fun z50=>
   bindv (z49&&z50:Bool) fun z51=>
   if z51=true then (
    n28 (s28.1,0,s28.2.2.1,nextP x0 s28.2.2.2)
   ) else (
    bindv (decide ((rn x0 s28.2.2.2)<48):Bool) fun z53=>
    bindv (decide (57<(rn x0 s28.2.2.2)):Bool) fun z54=>
    bindv (z53||z54:Bool) fun z55=>
    bindv (decide (s28.2.1=6):Bool) fun z56=>
    bindv (z55||z56:Bool) fun z57=>
    if z57=true then (
     some (0,false)
    ) else (
     bindv (decide (0≤s28.2.1):Bool) fun z59=>
     if z59=true then (
      bindv (IntKind.wrap .i64 (s28.2.1+1):Int) fun z61=>
      J35 z61
     ) else (
      J35 s28.2.1
     )
    )
   )
  ) else (
   J2 (s28.1,s28.2.1,s28.2.2.1)
  )
  ) fun B28=>
 loopF B28 KK (0,(-1),0,0)
def value_ToNum (x0:V):Option (V):=
 bindv ((fun s6=>
  if s6=true then (
   some x0
  ) else (
   bindv (decide (x0.k=0):Bool) fun z8=>
   if z8=true then (
    obind (value_Num (0:Int)) fun y10=>
    some y10
   ) else (
    bindv (decide (x0.k=3):Bool) fun z11=>
    if z11=true then (
     bindv (IntKind.wrap .i64 (x0.n*1000000):Int) fun z13=>
     obind (value_Num z13) fun y14=>
     some y14
    ) else (
     bindv ((Lib.trimPrefix x0.s ([45]:List UInt8),Lib.hasPrefix x0.s ([45]:List UInt8)):(List UInt8) × Bool) fun z16=>
     obind (num_Parse z16.1) fun y17=>
     bindv (!y17.2:Bool) fun z19=>
     if z19=true then (
      obind (value_Fail (2:Int)) fun y21=>
      some y21
     ) else (
      bindv ((fun s23=>
       obind (value_Num s23) fun y24=>
       some y24
       ):(Int)→Option (V)) fun J23=>
      if z16.2=true then (
       bindv (IntKind.wrap .i64 (-y17.1):Int) fun z26=>
       J23 z26
      ) else (
       J23 y17.1
      )
     )
    )
   )
  )
  ):(Bool)→Option (V)) fun J6=>
 bindv (decide (x0.k=1):Bool) fun z27=>
 if z27=true then (
  J6 z27
 ) else (
  bindv (decide (x0.k=4):Bool) fun z29=>
  J6 z29
 )
def value_ToBool (x0:V):Option (V):=
 bindv ((fun s6=>
  if s6=true then (
   some x0
  ) else (
   bindv (decide (x0.k=0):Bool) fun z8=>
   if z8=true then (
    obind (value_Bool false) fun y10=>
    some y10
   ) else (
    bindv (decide (x0.k=1):Bool) fun z11=>
    if z11=true then (
     bindv (!decide (x0.n=0):Bool) fun z13=>
     obind (value_Bool z13) fun y14=>
     some y14
    ) else (
     bindv (decide (x0.s=([84,82,85,69]:List UInt8)):Bool) fun z16=>
     bindv (decide (x0.s=([70,65,76,83,69]:List UInt8)):Bool) fun z17=>
     bindv (z16||z17:Bool) fun z18=>
     if z18=true then (
      bindv (decide (x0.s=([84,82,85,69]:List UInt8)):Bool) fun z20=>
      obind (value_Bool z20) fun y21=>
      some y21
     ) else (
      obind (value_Fail (2:Int)) fun y22=>
      some y22
     )
    )
   )
  )
  ):(Bool)→Option (V)) fun J6=>
 bindv (decide (x0.k=3):Bool) fun z23=>
 if z23=true then (
  J6 z23
 ) else (
  bindv (decide (x0.k=4):Bool) fun z25=>
  J6 z25
 )
end Go.Sp
end
section
namespace Go.Sp
open Go.Stp Go.ValP
def text1:List UInt8:=[73,70,50,51,32,73,70,69,82,82,79,82,50,50,32,65,78,68,49,57,32,79,82,49,57,32,67,72,79,79,83,69,50,57,32,65,66,83,49,49,32,83,73,71,78,49,49,32,73,78,84,49,49,32,82,79,85,78,68,50,50,32,77,79,68,50,50,32,80,79,87,69,82,50,50,32,81,85,79,84,73,69,78,84,50,50,32,71,67,68,50,50,32,76,67,77,50,50,32,70,65,67,84,49,49,32,69,86,69,78,49,49,32,79,68,68,49,49,32,84,82,85,78,67,49,49,32,77,73,78,49,57,32,77,65,88,49,57,32,83,85,77,49,57,32,80,82,79,68,85,67,84,49,57,32,67,79,85,78,84,49,57,32,67,79,85,78,84,65,49,57,32,67,79,85,78,84,66,76,65,78,75,49,49,32,65,86,69,82,65,71,69,49,57,32,83,85,77,73,70,50,50,32,67,79,85,78,84,73,70,50,50,32,83,85,77,80,82,79,68,85,67,84,50,50,32,76,69,78,49,49,32,76,69,70,84,50,50,32,82,73,71,72,84,50,50,32,77,73,68,51,51,32,85,80,80,69,82,49,49,32,76,79,87,69,82,49,49,32,84,82,73,77,49,49,32,67,79,78,67,65,84,49,57,32,82,69,80,84,50,50,32,70,73,78,68,50,50,32,83,85,66,83,84,73,84,85,84,69,51,51,32,69,88,65,67,84,50,50,32,86,65,76,85,69,49,49,32,78,79,84,49,49,32,73,83,78,85,77,66,69,82,49,49,32,73,83,84,69,88,84,49,49,32,73,83,66,76,65,78,75,49,49,32,73,83,69,82,82,79,82,49,49,32,73,83,76,79,71,73,67,65,76,49,49,32,78,65,48,48,32,73,78,68,69,88,51,51,32,77,65,84,67,72,50,50,32,86,76,79,79,75,85,80,51,51,32,82,79,87,83,49,49,32,67,79,76,85,77,78,83,49,49]
def value_Compare (x0:V) (x1:V):Option (Int):=
 obind (value_like x0 x1) fun y5=>
 obind (value_like x1 x0) fun y6=>
 bindv (!decide (y5.k=y6.k):Bool) fun z8=>
 if z8=true then (
  obind (value_rank y5) fun y10=>
  obind (value_rank y6) fun y11=>
  bindv (IntKind.wrap .i64 (y10-y11):Int) fun z12=>
  some z12
 ) else (
  bindv (decide (y5.k=2):Bool) fun z14=>
  if z14=true then (
   bindv (Lib.compareBytes y5.s y6.s:Int) fun z17=>
   some z17
  ) else (
   bindv (decide (y5.n<y6.n):Bool) fun z18=>
   if z18=true then (
    some (-1)
   ) else (
    bindv (decide (y6.n<y5.n):Bool) fun z20=>
    if z20=true then (
     some 1
    ) else (
     some 0
    )
   )
  )
 )
def tree_Name (x0:Int):Option ((List UInt8)):=
 chk (text1.length<4294967281∧(text1.all fun b=>decide (b.toNat<128))=true)<|
 bindv (Lib.fields text1:(List (List UInt8))) fun z3=>
 bindv (decide (x0<1):Bool) fun z6=>
 bindv (decide ((z3.length:Int)<x0):Bool) fun z7=>
 bindv (z6||z7:Bool) fun z8=>
 if z8=true then (
  some []
 ) else (
  bindv (IntKind.wrap .i64 (x0-1):Int) fun z10=>
  chk ((0:Int)≤z10∧z10<(z3.length:Int))<|
  bindv (gel z3 z10:List UInt8) fun z12=>
  bindv (IntKind.wrap .i64 (x0-1):Int) fun z13=>
  chk ((0:Int)≤z13∧z13<(z3.length:Int))<|
  bindv (gel z3 z13:List UInt8) fun z15=>
  bindv (IntKind.wrap .i64 ((z15.length:Int)-2):Int) fun z16=>
  chk ((0:Int)≤z16∧z16≤(z12.length:Int))<|
  bindv (cutS z12 0 z16:List UInt8) fun z18=>
  some z18
 )
def tree_Fits (x0:Int) (x1:Int):Option (Bool):=
 chk (text1.length<4294967281∧(text1.all fun b=>decide (b.toNat<128))=true)<|
 bindv (Lib.fields text1:(List (List UInt8))) fun z3=>
 bindv (decide (x0<1):Bool) fun z6=>
 bindv (decide ((z3.length:Int)<x0):Bool) fun z7=>
 bindv (z6||z7:Bool) fun z8=>
 if z8=true then (
  some false
 ) else (
  bindv (IntKind.wrap .i64 (x0-1):Int) fun z10=>
  chk ((0:Int)≤z10∧z10<(z3.length:Int))<|
  bindv (gel z3 z10:List UInt8) fun z12=>
  bindv (IntKind.wrap .i64 ((z12.length:Int)-2):Int) fun z13=>
  chk ((0:Int)≤z13∧z13<(z12.length:Int))<|
  bindv (bt z12 z13:Int) fun z15=>
  bindv (IntKind.wrap .u8 (z15-48):Int) fun z16=>
  bindv (IntKind.wrap .i64 z16:Int) fun z17=>
  bindv (decide (z17≤x1):Bool) fun z18=>
  bindv (IntKind.wrap .i64 ((z12.length:Int)-1):Int) fun z19=>
  chk (z18=true→(0:Int)≤z19∧z19<(z12.length:Int))<|
  bindv (bt z12 z19:Int) fun z21=>
  bindv (IntKind.wrap .u8 (z21-48):Int) fun z22=>
  bindv (IntKind.wrap .i64 z22:Int) fun z23=>
  bindv (decide (x1≤z23):Bool) fun z24=>
  bindv (z18&&z24:Bool) fun z25=>
  some z25
 )
def num_Of (x0:Int):Option (Int × Bool):=
 bindv (decide (9223372036854<x0):Bool) fun z2=>
 bindv (decide (x0<(-9223372036854)):Bool) fun z3=>
 bindv (z2||z3:Bool) fun z4=>
 if z4=true then (
  some (0,false)
 ) else (
  bindv (IntKind.wrap .i64 (x0*1000000):Int) fun z6=>
  some (z6,true)
 )
def num_Floor (x0:Int):Option (Int × Bool):=
 bindv (Int.tmod x0 1000000:Int) fun z1=>
 bindv ((fun s3=>
  obind (num_Sub x0 s3) fun y4=>
  some (y4.1,y4.2)
  ):(Int)→Option (Int × Bool)) fun J3=>
 bindv (decide (z1<0):Bool) fun z5=>
 if z5=true then (
  bindv (IntKind.wrap .i64 (z1+1000000):Int) fun z7=>
  J3 z7
 ) else (
  J3 z1
 )
def maths_gcd (x0:Int) (x1:Int):Option (Int):=
 bindv ((fun s2=>
  some s2
  ):(Int)→Option (Int)) fun J2=>
 bindv (fun (n3:(Int × Int)→Option (Int)) (s3:Int × Int)=>
  bindv (!decide (s3.2=0):Bool) fun z6=>
  if z6=true then (
   chk (s3.2≠0)<|
   bindv (Int.tmod s3.1 s3.2:Int) fun z10=>
   n3 (s3.2,z10)
  ) else (
   J2 s3.1
  )
  ) fun B3=>
 loopF B3 KK (x0,x1)
def maths_whole (x0:List (Int)):Option ((List (Int))):=
 bindv ((fun s2=>
  some s2
  ):((List (Int)))→Option ((List (Int)))) fun J2=>
 bindv (fun (n5:(Int × (List (Int)))→Option ((List (Int)))) (s5:Int × (List (Int)))=>
  bindv (decide (s5.1<(x0.length:Int)):Bool) fun z8=>
  if z8=true then (
   chk ((0:Int)≤s5.1∧s5.1<(x0.length:Int))<|
   bindv (gel x0 s5.1:Int) fun z13=>
   bindv (IntKind.wrap .i64 (Int.tdiv z13 1000000):Int) fun z14=>
   chk (s5.2.length+[z14].length≤9223372036854775807∧(s5.2.length+[z14].length)*8≤140737488355328)<|
   bindv (s5.2++[z14]:List (Int)) fun z18=>
   bindv (IntKind.wrap .i64 (s5.1+1):Int) fun z19=>
   n5 (z19,z18)
  ) else (
   J2 s5.2
  )
  ) fun B5=>
 loopF B5 KK (0,([]:List (Int)))
def maths_back (x0:Int):Option (V):=
 obind (num_Of x0) fun y2=>
 obind (value_Made y2.1 y2.2) fun y3=>
 some y3
def maths_away (x0:Int) (x1:Bool):Option (V):=
 bindv (IntKind.wrap .i64 (Int.tdiv x0 1000000):Int) fun z2=>
 bindv ((fun s4=>
  bindv ((fun s6=>
   bindv ((fun s8=>
    bindv (IntKind.wrap .i64 (s4.2*s8):Int) fun z9=>
    obind (maths_back z9) fun y10=>
    some y10
    ):(Int)→Option (V)) fun J8=>
   bindv (Int.tmod s6 2:Int) fun z11=>
   bindv (decide (z11=1):Bool) fun z12=>
   bindv (!(z12 == x1):Bool) fun z13=>
   if z13=true then (
    bindv (IntKind.wrap .i64 (s6+1):Int) fun z15=>
    J8 z15
   ) else (
    J8 s6
   )
   ):(Int)→Option (V)) fun J6=>
  bindv (Int.tmod x0 1000000:Int) fun z16=>
  bindv (!decide (z16=0):Bool) fun z17=>
  if z17=true then (
   bindv (IntKind.wrap .i64 (s4.1+1):Int) fun z19=>
   J6 z19
  ) else (
   J6 s4.1
  )
  ):(Int × Int)→Option (V)) fun J4=>
 bindv (decide (x0<0):Bool) fun z20=>
 if z20=true then (
  bindv (IntKind.wrap .i64 (-z2):Int) fun z22=>
  J4 (z22,(-1))
 ) else (
  J4 (z2,1)
 )
def maths_round (x0:Int) (x1:Int):Option (V):=
 bindv ((fun s3=>
  chk (s3≠0)<|
  bindv (IntKind.wrap .i64 (Int.tdiv x0 s3):Int) fun z5=>
  chk (s3≠0)<|
  bindv (Int.tmod x0 s3:Int) fun z7=>
  bindv ((fun s9=>
   bindv ((fun s11=>
    chk (s3≠0)<|
    bindv (IntKind.wrap .i64 (Int.tdiv 9223372036854775807 s3):Int) fun z14=>
    bindv (decide (z14<s11):Bool) fun z15=>
    chk ((!z15)=true→s3≠0)<|
    bindv (IntKind.wrap .i64 (Int.tdiv (-9223372036854775807) s3):Int) fun z17=>
    bindv (decide (s11<z17):Bool) fun z18=>
    bindv (z15||z18:Bool) fun z19=>
    if z19=true then (
     obind (value_Fail (5:Int)) fun y21=>
     some y21
    ) else (
     bindv (IntKind.wrap .i64 (s11*s3):Int) fun z22=>
     obind (value_Num z22) fun y23=>
     some y23
    )
    ):(Int)→Option (V)) fun J11=>
   bindv (IntKind.wrap .i64 (s3-s9):Int) fun z24=>
   bindv (decide (z24≤s9):Bool) fun z25=>
   if z25=true then (
    bindv (decide (x0<0):Bool) fun z27=>
    if z27=true then (
     bindv (IntKind.wrap .i64 (z5-1):Int) fun z29=>
     J11 z29
    ) else (
     bindv (IntKind.wrap .i64 (z5+1):Int) fun z30=>
     J11 z30
    )
   ) else (
    J11 z5
   )
   ):(Int)→Option (V)) fun J9=>
  bindv (decide (z7<0):Bool) fun z31=>
  if z31=true then (
   bindv (IntKind.wrap .i64 (-z7):Int) fun z33=>
   J9 z33
  ) else (
   J9 z7
  )
  ):(Int)→Option (V)) fun J3=>
 bindv (IntKind.wrap .i64 (6-x1):Int) fun z34=>
 bindv (fun (n36:(Int × Int)→Option (V)) (s36:Int × Int)=>
  bindv (decide (s36.2<z34):Bool) fun z38=>
  if z38=true then (
   bindv (IntKind.wrap .i64 (s36.1*10):Int) fun z42=>
   bindv (IntKind.wrap .i64 (s36.2+1):Int) fun z43=>
   n36 (z42,z43)
  ) else (
   J3 s36.1
  )
  ) fun B36=>
 loopF B36 KK (1,0)
def lists_numbers (x0:List (V)):Option ((List (Int))):=
 bindv ((fun s2=>
  some s2
  ):((List (Int)))→Option ((List (Int)))) fun J2=>
 bindv (fun (n5:(Int × (List (Int)))→Option ((List (Int)))) (s5:Int × (List (Int)))=>
  bindv (decide (s5.1<(x0.length:Int)):Bool) fun z8=>
  if z8=true then (
   chk ((0:Int)≤s5.1∧s5.1<(x0.length:Int))<|
   bindv (gel x0 s5.1:V) fun z13=>
   bindv (decide (z13.k=1):Bool) fun z15=>
   if z15=true then (
    chk (s5.2.length+[z13.n].length≤9223372036854775807∧(s5.2.length+[z13.n].length)*8≤140737488355328)<|
    bindv (s5.2++[z13.n]:List (Int)) fun z20=>
    bindv (IntKind.wrap .i64 (s5.1+1):Int) fun z21=>
    n5 (z21,z20)
   ) else (
    bindv (IntKind.wrap .i64 (s5.1+1):Int) fun z22=>
    n5 (z22,s5.2)
   )
  ) else (
   J2 s5.2
  )
  ) fun B5=>
 loopF B5 KK (0,([]:List (Int)))
def lists_Sum (x0:List (V)):Option (V):=
 bindv ((fun s3=>
  obind (value_Made s3.1 s3.2) fun y4=>
  some y4
  ):(Int × Bool)→Option (V)) fun J3=>
 obind (lists_numbers x0) fun y5=>
 bindv (fun (n8:(Int × Bool × Int)→Option (V)) (s8:Int × Bool × Int)=>
  bindv (decide (s8.2.2<(y5.length:Int)):Bool) fun z10=>
  if z10=true then (
   chk ((0:Int)≤s8.2.2∧s8.2.2<(y5.length:Int))<|
   bindv (gel y5 s8.2.2:Int) fun z15=>
   if s8.2.1=true then (
    obind (num_Add s8.1 z15) fun y17=>
    bindv (IntKind.wrap .i64 (s8.2.2+1):Int) fun z18=>
    n8 (y17.1,y17.2,z18)
   ) else (
    bindv (IntKind.wrap .i64 (s8.2.2+1):Int) fun z19=>
    n8 (s8.1,s8.2.1,z19)
   )
  ) else (
   J3 (s8.1,s8.2.1)
  )
  ) fun B8=>
 loopF B8 KK (0,true,0)
def lists_Extreme (x0:Bool) (x1:List (V)):Option (V):=
 obind (lists_numbers x1) fun y2=>
 bindv (decide ((y2.length:Int)=0):Bool) fun z5=>
 if z5=true then (
  obind (value_Num (0:Int)) fun y7=>
  some y7
 ) else (
  chk ((0:Int)≤0∧0<(y2.length:Int))<|
  bindv (gel y2 0:Int) fun z9=>
  bindv ((fun s11=>
   obind (value_Num s11) fun y12=>
   some y12
   ):(Int)→Option (V)) fun J11=>
  bindv (fun (n14:(Int × Int)→Option (V)) (s14:Int × Int)=>
   bindv (decide (s14.2<(y2.length:Int)):Bool) fun z16=>
   if z16=true then (
    chk ((0:Int)≤s14.2∧s14.2<(y2.length:Int))<|
    bindv (gel y2 s14.2:Int) fun z21=>
    bindv (decide (s14.1<z21):Bool) fun z22=>
    bindv (z22 == x0:Bool) fun z23=>
    bindv (!decide (z21=s14.1):Bool) fun z24=>
    bindv (z23&&z24:Bool) fun z25=>
    if z25=true then (
     bindv (IntKind.wrap .i64 (s14.2+1):Int) fun z27=>
     n14 (z21,z27)
    ) else (
     bindv (IntKind.wrap .i64 (s14.2+1):Int) fun z28=>
     n14 (s14.1,z28)
    )
   ) else (
    J11 s14.1
   )
   ) fun B14=>
  loopF B14 KK (z9,0)
 )
def lists_equal (x0:V) (x1:V):Option (Bool):=
 bindv (decide (x0.k=x1.k):Bool) fun z3=>
 bindv (decide (x0.n=x1.n):Bool) fun z4=>
 bindv (z3&&z4:Bool) fun z5=>
 bindv (decide (x0.s=x1.s):Bool) fun z6=>
 bindv (z5&&z6:Bool) fun z7=>
 some z7
def lists_Count (x0:Int) (x1:Bool) (x2:List (V)):Option (V):=
 bindv ((fun s3=>
  obind (num_Of s3) fun y4=>
  obind (value_Made y4.1 y4.2) fun y5=>
  some y5
  ):(Int)→Option (V)) fun J3=>
 bindv (fun (n7:(Int × Int)→Option (V)) (s7:Int × Int)=>
  bindv (decide (s7.2<(x2.length:Int)):Bool) fun z9=>
  if z9=true then (
   chk ((0:Int)≤s7.2∧s7.2<(x2.length:Int))<|
   bindv (gel x2 s7.2:V) fun z14=>
   bindv (decide (z14.k=x0):Bool) fun z16=>
   bindv (z16 == x1:Bool) fun z17=>
   if z17=true then (
    bindv (IntKind.wrap .i64 (s7.1+1):Int) fun z19=>
    bindv (IntKind.wrap .i64 (s7.2+1):Int) fun z20=>
    n7 (z19,z20)
   ) else (
    bindv (IntKind.wrap .i64 (s7.2+1):Int) fun z21=>
    n7 (s7.1,z21)
   )
  ) else (
   J3 s7.1
  )
  ) fun B7=>
 loopF B7 KK (0,0)
def lists_CountIf (x0:V) (x1:List (V)):Option (V):=
 bindv ((fun s4=>
  obind (num_Of s4) fun y5=>
  obind (value_Made y5.1 y5.2) fun y6=>
  some y6
  ):(Int)→Option (V)) fun J4=>
 bindv (fun (n8:(Int × Int)→Option (V)) (s8:Int × Int)=>
  bindv (decide (s8.2<(x1.length:Int)):Bool) fun z10=>
  if z10=true then (
   chk ((0:Int)≤s8.2∧s8.2<(x1.length:Int))<|
   bindv (gel x1 s8.2:V) fun z15=>
   obind (lists_equal z15 x0) fun y17=>
   if y17=true then (
    bindv (IntKind.wrap .i64 (s8.1+1):Int) fun z19=>
    bindv (IntKind.wrap .i64 (s8.2+1):Int) fun z20=>
    n8 (z19,z20)
   ) else (
    bindv (IntKind.wrap .i64 (s8.2+1):Int) fun z21=>
    n8 (s8.1,z21)
   )
  ) else (
   J4 s8.1
  )
  ) fun B8=>
 loopF B8 KK (0,0)
def lists_SumIf (x0:V) (x1:List (V)):Option (V):=
 bindv ((fun s4=>
  obind (lists_Sum s4) fun y6=>
  some y6
  ):((List (V)))→Option (V)) fun J4=>
 bindv (fun (n8:(Int × (List (V)))→Option (V)) (s8:Int × (List (V)))=>
  bindv (decide (s8.1<(x1.length:Int)):Bool) fun z11=>
  if z11=true then (
   chk ((0:Int)≤s8.1∧s8.1<(x1.length:Int))<|
   bindv (gel x1 s8.1:V) fun z16=>
   obind (lists_equal z16 x0) fun y18=>
   if y18=true then (
    chk (s8.2.length+[z16].length≤9223372036854775807∧(s8.2.length+[z16].length)*32≤140737488355328)<|
    bindv (s8.2++[z16]:List (V)) fun z23=>
    bindv (IntKind.wrap .i64 (s8.1+1):Int) fun z24=>
    n8 (z24,z23)
   ) else (
    bindv (IntKind.wrap .i64 (s8.1+1):Int) fun z25=>
    n8 (z25,s8.2)
   )
  ) else (
   J4 s8.2
  )
  ) fun B8=>
 loopF B8 KK (0,([]:List (V)))
def lists_Match (x0:V) (x1:List (V)):Option (V):=
 bindv ((fun s4=>
  obind (value_Fail (6:Int)) fun y5=>
  some y5
  ):(Int × Int × (List UInt8))→Option (V)) fun J4=>
 bindv (fun (n7:(Int × Int × Int × (List UInt8))→Option (V)) (s7:Int × Int × Int × (List UInt8))=>
  bindv (decide (s7.1<(x1.length:Int)):Bool) fun z9=>
  if z9=true then (
   chk ((0:Int)≤s7.1∧s7.1<(x1.length:Int))<|
   bindv (gel x1 s7.1:V) fun z14=>
   obind (lists_equal z14 x0) fun y16=>
   if y16=true then (
    bindv (IntKind.wrap .i64 (s7.1+1):Int) fun z18=>
    obind (num_Of z18) fun y19=>
    obind (value_Made y19.1 y19.2) fun y20=>
    some y20
   ) else (
    bindv (IntKind.wrap .i64 (s7.1+1):Int) fun z21=>
    n7 (z21,s7.2.1,s7.2.2.1,s7.2.2.2)
   )
  ) else (
   J4 (s7.2.1,s7.2.2.1,s7.2.2.2)
  )
  ) fun B7=>
 loopF B7 KK (0,0,0,[])
def lists_Index (x0:Int) (x1:Int) (x2:Int) (x3:List (V)):Option (V):=
 bindv (decide (x0<1):Bool) fun z3=>
 bindv (decide (x1<1):Bool) fun z4=>
 bindv (z3||z4:Bool) fun z5=>
 bindv (decide (x2<1):Bool) fun z6=>
 bindv (z5||z6:Bool) fun z7=>
 bindv (decide (x0<x2):Bool) fun z8=>
 bindv (z7||z8:Bool) fun z9=>
 chk ((!z9)=true→x0≠0)<|
 bindv (IntKind.wrap .i64 (Int.tdiv (x3.length:Int) x0):Int) fun z11=>
 bindv (decide (z11<x1):Bool) fun z12=>
 bindv (z9||z12:Bool) fun z13=>
 if z13=true then (
  obind (value_Fail (3:Int)) fun y15=>
  some y15
 ) else (
  bindv (IntKind.wrap .i64 (x1-1):Int) fun z16=>
  bindv (IntKind.wrap .i64 (z16*x0):Int) fun z17=>
  bindv (IntKind.wrap .i64 (x2-1):Int) fun z18=>
  bindv (IntKind.wrap .i64 (z17+z18):Int) fun z19=>
  chk ((0:Int)≤z19∧z19<(x3.length:Int))<|
  bindv (gel x3 z19:V) fun z21=>
  some z21
 )
def lists_VLookup (x0:V) (x1:Int) (x2:Int) (x3:List (V)):Option (V):=
 bindv (decide (x1<1):Bool) fun z4=>
 bindv (decide (x2<1):Bool) fun z5=>
 bindv (z4||z5:Bool) fun z6=>
 bindv (decide (x1<x2):Bool) fun z7=>
 bindv (z6||z7:Bool) fun z8=>
 if z8=true then (
  obind (value_Fail (3:Int)) fun y10=>
  some y10
 ) else (
  bindv ((fun s12=>
   obind (value_Fail (6:Int)) fun y13=>
   some y13
   ):(Int × Int × (List UInt8))→Option (V)) fun J12=>
  bindv (fun (n15:(Int × Int × Int × (List UInt8))→Option (V)) (s15:Int × Int × Int × (List UInt8))=>
   bindv (IntKind.wrap .i64 (s15.1+x1):Int) fun z18=>
   bindv (decide (z18≤(x3.length:Int)):Bool) fun z19=>
   if z19=true then (
    chk ((0:Int)≤s15.1∧s15.1<(x3.length:Int))<|
    bindv (gel x3 s15.1:V) fun z23=>
    obind (lists_equal z23 x0) fun y24=>
    if y24=true then (
     bindv (IntKind.wrap .i64 (s15.1+x2):Int) fun z26=>
     bindv (IntKind.wrap .i64 (z26-1):Int) fun z27=>
     chk ((0:Int)≤z27∧z27<(x3.length:Int))<|
     bindv (gel x3 z27:V) fun z29=>
     some z29
    ) else (
     bindv (IntKind.wrap .i64 (s15.1+x1):Int) fun z30=>
     n15 (z30,s15.2.1,s15.2.2.1,s15.2.2.2)
    )
   ) else (
    J12 (s15.2.1,s15.2.2.1,s15.2.2.2)
   )
   ) fun B15=>
  loopF B15 KK (0,0,0,[])
 )
def texts_trimmed (x0:List UInt8):Option ((List UInt8)):=
 bindv ((fun s2=>
  some s2
  ):((List UInt8))→Option ((List UInt8))) fun J2=>
 bindv (fun (n4:((List UInt8) × Bool × Int)→Option ((List UInt8))) (s4:(List UInt8) × Bool × Int)=>
  bindv (decide (s4.2.2<(x0.length:Int)):Bool) fun z6=>
  if z6=true then (
   chk ((0:Int)≤s4.2.2∧s4.2.2<(x0.length:Int))<|
   bindv (bt x0 s4.2.2:Int) fun z12=>
   bindv (decide (z12=32):Bool) fun z13=>
   if z13=true then (
    bindv (!decide (s4.1=[]):Bool) fun z15=>
    bindv (IntKind.wrap .i64 (s4.2.2+1):Int) fun z16=>
    n4 (s4.1,z15,z16)
   ) else (
    bindv ((fun s18=>
     bindv (IntKind.wrap .i64 (s4.2.2+1):Int) fun z19=>
     chk ((0:Int)≤s4.2.2∧s4.2.2≤z19∧z19≤(x0.length:Int))<|
     bindv (cutS x0 s4.2.2 z19:List UInt8) fun z21=>
     chk (s18.length+z21.length≤9223372036854775807)<|
     bindv (s18++z21:List UInt8) fun z23=>
     bindv (IntKind.wrap .i64 (s4.2.2+1):Int) fun z24=>
     n4 (z23,false,z24)
     ):((List UInt8))→Option ((List UInt8))) fun J18=>
    if s4.2.1=true then (
     chk (s4.1.length+([32]:List UInt8).length≤9223372036854775807)<|
     bindv (s4.1++([32]:List UInt8):List UInt8) fun z27=>
     J18 z27
    ) else (
     J18 s4.1
    )
   )
  ) else (
   J2 s4.1
  )
  ) fun B4=>
 loopF B4 KK ([],false,0)
def texts_runes (x0:List UInt8):Option (Int):=
 bindv ((fun s2=>
  some s2
  ):(Int)→Option (Int)) fun J2=>
 bindv (fun (n5:(Int × Nat)→Option (Int)) (s5:Int × Nat)=>
  bindv (decide (s5.2<x0.length):Bool) fun z7=>
  if z7=true then (
   bindv (IntKind.wrap .i64 (s5.1+1):Int) fun z11=>
   n5 (z11,nextP x0 s5.2)
  ) else (
   J2 s5.1
  )
  ) fun B5=>
 loopF B5 KK (0,0)
def texts_count (x0:Int) (x1:List UInt8):Option (Int × Bool):=
 bindv (IntKind.wrap .i64 (Int.tdiv x0 1000000):Int) fun z1=>
 bindv (max z1 0:Int) fun z2=>
 bindv (min z2 (x1.length:Int):Int) fun z3=>
 bindv (decide (0≤z1):Bool) fun z4=>
 some (z3,z4)
end Go.Sp
end
section
namespace Go.Sp
open Go.Stp Go.ValP
def bits_Div64 (x0:Int) (x1:Int) (x2:Int):Option (Int × Int):=
 bindv ((fun s2=>
  bindv ((fun s4=>
   bindv (decide (x0=0):Bool) fun z6=>
   if z6=true then (
    chk (x2≠0)<|
    bindv (IntKind.wrap .u64 (Int.tdiv x1 x2):Int) fun z9=>
    chk (x2≠0)<|
    bindv (Int.tmod x1 x2:Int) fun z11=>
    some (z9,z11)
   ) else (
    chk (0≤x2∧x2≤18446744073709551615)<|
    bindv (64-(Lib.bitLen (Int.toNat x2):Int):Int) fun z14=>
    bindv (IntKind.wrap .u64 z14:Int) fun z15=>
    chk ((0:Int)≤z15)<|
    bindv (shlI .u64 x2 z15:Int) fun z17=>
    chk ((0:Int)≤32)<|
    bindv (shrI .u64 z17 32:Int) fun z19=>
    bindv (bits .and .u64 z17 4294967295:Int) fun z20=>
    chk ((0:Int)≤z15)<|
    bindv (shlI .u64 x0 z15:Int) fun z22=>
    bindv (IntKind.wrap .u64 (64-z15):Int) fun z23=>
    chk ((0:Int)≤z23)<|
    bindv (shrI .u64 x1 z23:Int) fun z25=>
    bindv (bits .or .u64 z22 z25:Int) fun z26=>
    chk ((0:Int)≤z15)<|
    bindv (shlI .u64 x1 z15:Int) fun z28=>
    chk ((0:Int)≤32)<|
    bindv (shrI .u64 z28 32:Int) fun z30=>
    bindv (bits .and .u64 z28 4294967295:Int) fun z31=>
    chk (z19≠0)<|
    bindv (IntKind.wrap .u64 (Int.tdiv z26 z19):Int) fun z33=>
    bindv (IntKind.wrap .u64 (z33*z19):Int) fun z34=>
    bindv (IntKind.wrap .u64 (z26-z34):Int) fun z35=>
    bindv ((fun s37=>
     bindv (IntKind.wrap .u64 (z26*4294967296):Int) fun z38=>
     bindv (IntKind.wrap .u64 (z38+z30):Int) fun z39=>
     bindv (IntKind.wrap .u64 (s37*z17):Int) fun z40=>
     bindv (IntKind.wrap .u64 (z39-z40):Int) fun z41=>
     chk (z19≠0)<|
     bindv (IntKind.wrap .u64 (Int.tdiv z41 z19):Int) fun z43=>
     bindv (IntKind.wrap .u64 (z43*z19):Int) fun z44=>
     bindv (IntKind.wrap .u64 (z41-z44):Int) fun z45=>
     bindv ((fun s47=>
      bindv (IntKind.wrap .u64 (s37*4294967296):Int) fun z48=>
      bindv (IntKind.wrap .u64 (z48+s47):Int) fun z49=>
      bindv (IntKind.wrap .u64 (z41*4294967296):Int) fun z50=>
      bindv (IntKind.wrap .u64 (z50+z31):Int) fun z51=>
      bindv (IntKind.wrap .u64 (s47*z17):Int) fun z52=>
      bindv (IntKind.wrap .u64 (z51-z52):Int) fun z53=>
      chk ((0:Int)≤z15)<|
      bindv (shrI .u64 z53 z15:Int) fun z55=>
      some (z49,z55)
      ):(Int)→Option (Int × Int)) fun J47=>
     bindv (fun (n56:(Int × Int)→Option (Int × Int)) (s56:Int × Int)=>
      bindv (decide (4294967296≤s56.2):Bool) fun z59=>
      bindv (IntKind.wrap .u64 (s56.2*z20):Int) fun z60=>
      bindv (IntKind.wrap .u64 (4294967296*s56.1):Int) fun z61=>
      bindv (IntKind.wrap .u64 (z61+z31):Int) fun z62=>
      bindv (decide (z62<z60):Bool) fun z63=>
      bindv (z59||z63:Bool) fun z64=>
      if z64=true then (
       bindv (IntKind.wrap .u64 (s56.2-1):Int) fun z67=>
       bindv (IntKind.wrap .u64 (s56.1+z19):Int) fun z68=>
       bindv (decide (4294967296≤z68):Bool) fun z69=>
       if z69=true then (
        J47 z67
       ) else (
        n56 (z68,z67)
       )
      ) else (
       J47 s56.2
      )
      ) fun B56=>
     loopF B56 KK (z45,z43)
     ):(Int)→Option (Int × Int)) fun J37=>
    bindv (fun (n71:(Int × Int)→Option (Int × Int)) (s71:Int × Int)=>
     bindv (decide (4294967296≤s71.1):Bool) fun z74=>
     bindv (IntKind.wrap .u64 (s71.1*z20):Int) fun z75=>
     bindv (IntKind.wrap .u64 (4294967296*s71.2):Int) fun z76=>
     bindv (IntKind.wrap .u64 (z76+z30):Int) fun z77=>
     bindv (decide (z77<z75):Bool) fun z78=>
     bindv (z74||z78:Bool) fun z79=>
     if z79=true then (
      bindv (IntKind.wrap .u64 (s71.1-1):Int) fun z82=>
      bindv (IntKind.wrap .u64 (s71.2+z19):Int) fun z83=>
      bindv (decide (4294967296≤z83):Bool) fun z84=>
      if z84=true then (
       J37 z82
      ) else (
       n71 (z82,z83)
      )
     ) else (
      J37 s71.1
     )
     ) fun B71=>
    loopF B71 KK (z33,z35)
   )
   ):(Unit)→Option (Int × Int)) fun J4=>
  bindv (decide (x2≤x0):Bool) fun z86=>
  if z86=true then (
   none
  ) else (
   J4 ()
  )
  ):(Unit)→Option (Int × Int)) fun J2=>
 bindv (decide (x2=0):Bool) fun z88=>
 if z88=true then (
  none
 ) else (
  J2 ()
 )
def num_scaled (x0:Int) (x1:Int) (x2:Int):Option (Int × Bool):=
 chk ((0≤x0∧x0≤18446744073709551615)∧0≤x1∧x1≤18446744073709551615)<|
 bindv ((x0*x1 / 18446744073709551616,x0*x1 % 18446744073709551616):Int × Int) fun z3=>
 bindv (decide (x2≤z3.1):Bool) fun z5=>
 if z5=true then (
  some (0,false)
 ) else (
  obind (bits_Div64 z3.1 z3.2 x2) fun y7=>
  bindv ((fun s9=>
   bindv (!decide (s9=0):Bool) fun z10=>
   bindv (IntKind.wrap .u64 (x2-y7.2):Int) fun z11=>
   bindv (decide (y7.2<z11):Bool) fun z12=>
   bindv (z10||z12:Bool) fun z13=>
   some (s9,z13)
   ):(Int)→Option (Int × Bool)) fun J9=>
  bindv (IntKind.wrap .u64 (x2-y7.2):Int) fun z14=>
  bindv (decide (z14≤y7.2):Bool) fun z15=>
  if z15=true then (
   bindv (IntKind.wrap .u64 (y7.1+1):Int) fun z17=>
   J9 z17
  ) else (
   J9 y7.1
  )
 )
def num_Mul (x0:Int) (x1:Int):Option (Int × Bool):=
 obind (num_abs x0) fun y1=>
 obind (num_abs x1) fun y2=>
 obind (num_scaled y1 y2 (1000000:Int)) fun y3=>
 bindv (!y3.2:Bool) fun z5=>
 if z5=true then (
  some (0,false)
 ) else (
  bindv (decide (x0<0):Bool) fun z7=>
  bindv (decide (x1<0):Bool) fun z8=>
  bindv (!(z7 == z8):Bool) fun z9=>
  obind (num_signed y3.1 z9) fun y10=>
  some (y10.1,y10.2)
 )
def num_Quo (x0:Int) (x1:Int):Option (Int × Bool):=
 bindv (decide (x1=0):Bool) fun z2=>
 if z2=true then (
  some (0,false)
 ) else (
  obind (num_abs x0) fun y4=>
  obind (num_abs x1) fun y5=>
  obind (num_scaled y4 (1000000:Int) y5) fun y6=>
  bindv (!y6.2:Bool) fun z8=>
  if z8=true then (
   some (0,false)
  ) else (
   bindv (decide (x0<0):Bool) fun z10=>
   bindv (decide (x1<0):Bool) fun z11=>
   bindv (!(z10 == z11):Bool) fun z12=>
   obind (num_signed y6.1 z12) fun y13=>
   some (y13.1,y13.2)
  )
 )
def num_Print (x0:Int):Option ((List UInt8)):=
 obind (num_abs x0) fun y1=>
 bindv ((fun s4=>
  bindv ((fun s7=>
   bindv ((fun s10=>
    chk (bytesOk s10=true)<|
    bindv (toB s10:List UInt8) fun z13=>
    some z13
    ):((List (Int)))→Option ((List UInt8))) fun J10=>
   bindv (IntKind.wrap .i64 ((s7.length:Int)-1):Int) fun z14=>
   bindv (fun (n16:(Int × Int × (List (Int)))→Option ((List UInt8))) (s16:Int × Int × (List (Int)))=>
    bindv (decide (s16.1<s16.2.1):Bool) fun z20=>
    if z20=true then (
     chk ((0:Int)≤s16.1∧s16.1<(s16.2.2.length:Int))<|
     chk ((0:Int)≤s16.2.1∧s16.2.1<(s16.2.2.length:Int))<|
     bindv ((s16.2.2.set (Int.toNat s16.1) (gel s16.2.2 s16.2.1)).set (Int.toNat s16.2.1) (gel s16.2.2 s16.1):List Int) fun zrow_25=>
     bindv (IntKind.wrap .i64 (s16.1+1):Int) fun z28=>
     bindv (IntKind.wrap .i64 (s16.2.1-1):Int) fun z29=>
     n16 (z28,z29,zrow_25)
    ) else (
     J10 s16.2.2
    )
    ) fun B16=>
   loopF B16 KK (0,z14,s7)
   ):((List (Int)))→Option ((List UInt8))) fun J7=>
  bindv (decide (x0<0):Bool) fun z30=>
  if z30=true then (
   chk (s4.length+[45].length≤9223372036854775807∧(s4.length+[45].length)*1≤140737488355328)<|
   bindv (s4++[45]:List (Int)) fun z35=>
   J7 z35
  ) else (
   J7 s4
  )
  ):((List (Int)))→Option ((List UInt8))) fun J4=>
 bindv (fun (n37:(Int × Bool × Int × (List (Int)))→Option ((List UInt8))) (s37:Int × Bool × Int × (List (Int)))=>
  bindv (decide (s37.2.2.1<7):Bool) fun z41=>
  bindv (decide (0<s37.1):Bool) fun z42=>
  bindv (z41||z42:Bool) fun z43=>
  if z43=true then (
   bindv ((fun s46=>
    bindv (IntKind.wrap .i64 (s37.2.2.1+1):Int) fun z48=>
    n37 (s46.1,s46.2.1,z48,s46.2.2)
    ):(Int × Bool × (List (Int)))→Option ((List UInt8))) fun J46=>
   bindv ((fun s50=>
    bindv (Int.tmod s37.1 10:Int) fun z52=>
    bindv (IntKind.wrap .u8 z52:Int) fun z53=>
    bindv (IntKind.wrap .u64 (Int.tdiv s37.1 10):Int) fun z54=>
    bindv (decide (z53=0):Bool) fun z56=>
    bindv (s50.1&&z56:Bool) fun z57=>
    if z57=true then (
     J46 (z54,s50.1,s50.2)
    ) else (
     bindv (IntKind.wrap .u8 (48+z53):Int) fun z59=>
     chk (s50.2.length+[z59].length≤9223372036854775807∧(s50.2.length+[z59].length)*1≤140737488355328)<|
     bindv (s50.2++[z59]:List (Int)) fun z63=>
     J46 (z54,false,z63)
    )
    ):(Bool × (List (Int)))→Option ((List UInt8))) fun J50=>
   bindv (decide (s37.2.2.1=6):Bool) fun z64=>
   if z64=true then (
    bindv (!s37.2.1:Bool) fun z67=>
    if z67=true then (
     chk (s37.2.2.2.length+[46].length≤9223372036854775807∧(s37.2.2.2.length+[46].length)*1≤140737488355328)<|
     bindv (s37.2.2.2++[46]:List (Int)) fun z72=>
     J50 (false,z72)
    ) else (
     J50 (false,s37.2.2.2)
    )
   ) else (
    J50 (s37.2.1,s37.2.2.2)
   )
  ) else (
   J4 s37.2.2.2
  )
  ) fun B37=>
 loopF B37 KK (y1,true,0,[])
def value_Show (x0:V):Option ((List UInt8)):=
 bindv (decide (x0.k=1):Bool) fun z4=>
 if z4=true then (
  obind (num_Print x0.n) fun y6=>
  some y6
 ) else (
  bindv (decide (x0.k=2):Bool) fun z7=>
  if z7=true then (
   some x0.s
  ) else (
   bindv (decide (x0.k=3):Bool) fun z9=>
   if z9=true then (
    bindv (decide (x0.n=1):Bool) fun z12=>
    if z12=true then (
     some ([84,82,85,69]:List UInt8)
    ) else (
     some ([70,65,76,83,69]:List UInt8)
    )
   ) else (
    bindv (decide (x0.k=4):Bool) fun z14=>
    if z14=true then (
     obind (value_ErrorName x0.n) fun y16=>
     some y16
    ) else (
     some []
    )
   )
  )
 )
def value_ToText (x0:V):Option (V):=
 bindv (decide (x0.k=4):Bool) fun z4=>
 if z4=true then (
  some x0
 ) else (
  obind (value_Show x0) fun y6=>
  obind (value_Text y6) fun y7=>
  some y7
 )
def maths_power (x0:Int) (x1:Int):Option (V):=
 obind (num_Of (1:Int)) fun y2=>
 bindv ((fun s4=>
  obind (value_Made s4.1 s4.2) fun y5=>
  some y5
  ):(Int × Bool)→Option (V)) fun J4=>
 bindv (fun (n7:(Int × Bool × Int)→Option (V)) (s7:Int × Bool × Int)=>
  bindv (decide (s7.2.2<x1):Bool) fun z9=>
  if z9=true then (
   if s7.2.1=true then (
    obind (num_Mul s7.1 x0) fun y14=>
    bindv (IntKind.wrap .i64 (s7.2.2+1):Int) fun z15=>
    n7 (y14.1,y14.2,z15)
   ) else (
    bindv (IntKind.wrap .i64 (s7.2.2+1):Int) fun z16=>
    n7 (s7.1,s7.2.1,z16)
   )
  ) else (
   J4 (s7.1,s7.2.1)
  )
  ) fun B7=>
 loopF B7 KK (y2.1,y2.2,0)
def lists_Product (x0:List (V)):Option (V):=
 obind (lists_numbers x0) fun y2=>
 bindv (decide ((y2.length:Int)=0):Bool) fun z5=>
 if z5=true then (
  obind (value_Num (0:Int)) fun y7=>
  some y7
 ) else (
  chk ((0:Int)≤0∧0<(y2.length:Int))<|
  bindv (gel y2 0:Int) fun z9=>
  bindv ((fun s11=>
   obind (value_Made s11.1 s11.2) fun y12=>
   some y12
   ):(Int × Bool)→Option (V)) fun J11=>
  chk ((0:Int)≤(1:Int)∧(1:Int)≤(y2.length:Int)∧(y2.length:Int)≤(y2.length:Int))<|
  bindv (cutL y2 (1:Int) (y2.length:Int):List (Int)) fun z14=>
  bindv (fun (n17:(Int × Bool × Int)→Option (V)) (s17:Int × Bool × Int)=>
   bindv (decide (s17.2.2<(z14.length:Int)):Bool) fun z19=>
   if z19=true then (
    chk ((0:Int)≤s17.2.2∧s17.2.2<(z14.length:Int))<|
    bindv (gel z14 s17.2.2:Int) fun z24=>
    if s17.2.1=true then (
     obind (num_Mul s17.1 z24) fun y26=>
     bindv (IntKind.wrap .i64 (s17.2.2+1):Int) fun z27=>
     n17 (y26.1,y26.2,z27)
    ) else (
     bindv (IntKind.wrap .i64 (s17.2.2+1):Int) fun z28=>
     n17 (s17.1,s17.2.1,z28)
    )
   ) else (
    J11 (s17.1,s17.2.1)
   )
   ) fun B17=>
  loopF B17 KK (z9,true,0)
 )
def lists_Average (x0:List (V)):Option (V):=
 obind (lists_Sum x0) fun y2=>
 obind (lists_numbers x0) fun y4=>
 bindv (decide ((y4.length:Int)=0):Bool) fun z7=>
 if z7=true then (
  obind (value_Fail (1:Int)) fun y9=>
  some y9
 ) else (
  bindv (decide (y2.k=4):Bool) fun z11=>
  if z11=true then (
   some y2
  ) else (
   bindv (IntKind.wrap .i64 ((y4.length:Int)*1000000):Int) fun z13=>
   obind (num_Quo y2.n z13) fun y14=>
   obind (value_Made y14.1 y14.2) fun y15=>
   some y15
  )
 )
def maths_One (x0:List UInt8) (x1:Int):Option (V):=
 bindv ((fun s3=>
  obind (value_Fail (2:Int)) fun y4=>
  some y4
  ):(Int × Int × (List UInt8))→Option (V)) fun J3=>
 bindv (decide (x0=([65,66,83]:List UInt8)):Bool) fun z6=>
 if z6=true then (
  bindv (IntKind.wrap .i64 (-x1):Int) fun z8=>
  bindv (max x1 z8:Int) fun z9=>
  obind (value_Num z9) fun y10=>
  some y10
 ) else (
  bindv (decide (x0=([83,73,71,78]:List UInt8)):Bool) fun z11=>
  if z11=true then (
   bindv (max x1 (-1):Int) fun z13=>
   bindv (min z13 1:Int) fun z14=>
   obind (maths_back z14) fun y15=>
   some y15
  ) else (
   bindv (decide (x0=([73,78,84]:List UInt8)):Bool) fun z16=>
   if z16=true then (
    obind (num_Floor x1) fun y18=>
    obind (value_Made y18.1 y18.2) fun y19=>
    some y19
   ) else (
    bindv (decide (x0=([84,82,85,78,67]:List UInt8)):Bool) fun z20=>
    if z20=true then (
     bindv (Int.tmod x1 1000000:Int) fun z22=>
     bindv (IntKind.wrap .i64 (x1-z22):Int) fun z23=>
     obind (value_Num z23) fun y24=>
     some y24
    ) else (
     bindv ((fun s26=>
      if s26=true then (
       bindv (decide (x0=([79,68,68]:List UInt8)):Bool) fun z28=>
       obind (maths_away x1 z28) fun y29=>
       some y29
      ) else (
       bindv (decide (x0=([70,65,67,84]:List UInt8)):Bool) fun z30=>
       if z30=true then (
        obind (maths_whole [x1]) fun y33=>
        chk ((0:Int)≤0∧0<(y33.length:Int))<|
        bindv (gel y33 0:Int) fun z36=>
        bindv (decide (z36<0):Bool) fun z38=>
        bindv (decide (20<z36):Bool) fun z39=>
        bindv (z38||z39:Bool) fun z40=>
        if z40=true then (
         obind (value_Fail (5:Int)) fun y42=>
         some y42
        ) else (
         bindv ((fun s44=>
          obind (maths_back s44) fun y45=>
          some y45
          ):(Int)→Option (V)) fun J44=>
         bindv (fun (n47:(Int × Int)→Option (V)) (s47:Int × Int)=>
          bindv (decide (s47.2≤z36):Bool) fun z50=>
          if z50=true then (
           bindv (IntKind.wrap .i64 (s47.1*s47.2):Int) fun z53=>
           bindv (IntKind.wrap .i64 (s47.2+1):Int) fun z54=>
           n47 (z53,z54)
          ) else (
           J44 s47.1
          )
          ) fun B47=>
         loopF B47 KK (1,2)
        )
       ) else (
        J3 (0,0,[])
       )
      )
      ):(Bool)→Option (V)) fun J26=>
     bindv (decide (x0=([69,86,69,78]:List UInt8)):Bool) fun z55=>
     if z55=true then (
      J26 z55
     ) else (
      bindv (decide (x0=([79,68,68]:List UInt8)):Bool) fun z57=>
      J26 z57
     )
    )
   )
  )
 )
def maths_Two (x0:List UInt8) (x1:Int) (x2:Int):Option (V):=
 obind (maths_whole [x1,x2]) fun y3=>
 bindv (decide (x0=([82,79,85,78,68]:List UInt8)):Bool) fun z7=>
 if z7=true then (
  chk ((0:Int)≤1∧1<(y3.length:Int))<|
  bindv (gel y3 1:Int) fun z11=>
  bindv (decide (z11<(-6)):Bool) fun z12=>
  chk ((!z12)=true→(0:Int)≤1∧1<(y3.length:Int))<|
  bindv (gel y3 1:Int) fun z14=>
  bindv (decide (6<z14):Bool) fun z15=>
  bindv (z12||z15:Bool) fun z16=>
  if z16=true then (
   obind (value_Fail (5:Int)) fun y18=>
   some y18
  ) else (
   chk ((0:Int)≤1∧1<(y3.length:Int))<|
   bindv (gel y3 1:Int) fun z20=>
   obind (maths_round x1 z20) fun y21=>
   some y21
  )
 ) else (
  bindv (decide (x0=([77,79,68]:List UInt8)):Bool) fun z22=>
  if z22=true then (
   bindv (decide (x2=0):Bool) fun z25=>
   if z25=true then (
    obind (value_Fail (1:Int)) fun y27=>
    some y27
   ) else (
    chk (x2≠0)<|
    bindv (Int.tmod x1 x2:Int) fun z29=>
    bindv ((fun s31=>
     obind (value_Num s31) fun y32=>
     some y32
     ):(Int)→Option (V)) fun J31=>
    bindv (!decide (z29=0):Bool) fun z33=>
    bindv (decide (z29<0):Bool) fun z34=>
    bindv (decide (x2<0):Bool) fun z35=>
    bindv (!(z34 == z35):Bool) fun z36=>
    bindv (z33&&z36:Bool) fun z37=>
    if z37=true then (
     bindv (IntKind.wrap .i64 (z29+x2):Int) fun z39=>
     J31 z39
    ) else (
     J31 z29
    )
   )
  ) else (
   bindv (decide (x0=([80,79,87,69,82]:List UInt8)):Bool) fun z40=>
   if z40=true then (
    bindv (Int.tmod x2 1000000:Int) fun z43=>
    bindv (!decide (z43=0):Bool) fun z44=>
    chk ((!z44)=true→(0:Int)≤1∧1<(y3.length:Int))<|
    bindv (gel y3 1:Int) fun z46=>
    bindv (decide (z46<0):Bool) fun z47=>
    bindv (z44||z47:Bool) fun z48=>
    chk ((!z48)=true→(0:Int)≤1∧1<(y3.length:Int))<|
    bindv (gel y3 1:Int) fun z50=>
    bindv (decide (64<z50):Bool) fun z51=>
    bindv (z48||z51:Bool) fun z52=>
    if z52=true then (
     obind (value_Fail (5:Int)) fun y54=>
     some y54
    ) else (
     chk ((0:Int)≤1∧1<(y3.length:Int))<|
     bindv (gel y3 1:Int) fun z56=>
     obind (maths_power x1 z56) fun y57=>
     some y57
    )
   ) else (
    bindv (decide (x0=([81,85,79,84,73,69,78,84]:List UInt8)):Bool) fun z58=>
    if z58=true then (
     bindv (decide (x2=0):Bool) fun z61=>
     if z61=true then (
      obind (value_Fail (1:Int)) fun y63=>
      some y63
     ) else (
      chk (x2≠0)<|
      bindv (IntKind.wrap .i64 (Int.tdiv x1 x2):Int) fun z65=>
      obind (maths_back z65) fun y66=>
      some y66
     )
    ) else (
     bindv ((fun s68=>
      if s68=true then (
       chk ((0:Int)≤0∧0<(y3.length:Int))<|
       bindv (gel y3 0:Int) fun z72=>
       bindv (decide (z72<0):Bool) fun z73=>
       chk ((!z73)=true→(0:Int)≤1∧1<(y3.length:Int))<|
       bindv (gel y3 1:Int) fun z75=>
       bindv (decide (z75<0):Bool) fun z76=>
       bindv (z73||z76:Bool) fun z77=>
       if z77=true then (
        obind (value_Fail (5:Int)) fun y79=>
        some y79
       ) else (
        chk ((0:Int)≤0∧0<(y3.length:Int))<|
        bindv (gel y3 0:Int) fun z81=>
        chk ((0:Int)≤1∧1<(y3.length:Int))<|
        bindv (gel y3 1:Int) fun z83=>
        obind (maths_gcd z81 z83) fun y84=>
        bindv (decide (x0=([71,67,68]:List UInt8)):Bool) fun z86=>
        bindv (decide (y84=0):Bool) fun z87=>
        bindv (z86||z87:Bool) fun z88=>
        if z88=true then (
         obind (maths_back y84) fun y90=>
         some y90
        ) else (
         chk ((0:Int)≤0∧0<(y3.length:Int))<|
         bindv (gel y3 0:Int) fun z92=>
         chk (y84≠0)<|
         bindv (IntKind.wrap .i64 (Int.tdiv z92 y84):Int) fun z94=>
         chk ((0:Int)≤1∧1<(y3.length:Int))<|
         bindv (gel y3 1:Int) fun z97=>
         bindv (!decide (z97=0):Bool) fun z98=>
         chk (z98=true→(0:Int)≤1∧1<(y3.length:Int))<|
         bindv (gel y3 1:Int) fun z100=>
         chk (z98=true→z100≠0)<|
         bindv (IntKind.wrap .i64 (Int.tdiv 9223372036854 z100):Int) fun z102=>
         bindv (decide (z102<z94):Bool) fun z103=>
         bindv (z98&&z103:Bool) fun z104=>
         if z104=true then (
          obind (value_Fail (5:Int)) fun y106=>
          some y106
         ) else (
          chk ((0:Int)≤1∧1<(y3.length:Int))<|
          bindv (gel y3 1:Int) fun z108=>
          bindv (IntKind.wrap .i64 (z94*z108):Int) fun z109=>
          obind (maths_back z109) fun y110=>
          some y110
         )
        )
       )
      ) else (
       obind (value_Fail (2:Int)) fun y111=>
       some y111
      )
      ):(Bool)→Option (V)) fun J68=>
     bindv (decide (x0=([71,67,68]:List UInt8)):Bool) fun z112=>
     if z112=true then (
      J68 z112
     ) else (
      bindv (decide (x0=([76,67,77]:List UInt8)):Bool) fun z114=>
      J68 z114
     )
    )
   )
  )
 )
def texts_turned (x0:List UInt8) (x1:Int) (x2:Int):Option ((List UInt8)):=
 bindv (ofB x0:List Int) fun z2=>
 bindv ((fun s4=>
  chk (bytesOk s4=true)<|
  bindv (toB s4:List UInt8) fun z6=>
  some z6
  ):((List Int))→Option ((List UInt8))) fun J4=>
 bindv (fun (n8:(Int × (List Int))→Option ((List UInt8))) (s8:Int × (List Int))=>
  bindv (decide (s8.1<(z2.length:Int)):Bool) fun z10=>
  if z10=true then (
   chk ((0:Int)≤s8.1∧s8.1<(s8.2.length:Int))<|
   bindv (gel s8.2 s8.1:Int) fun z15=>
   bindv (decide (x1≤z15):Bool) fun z16=>
   bindv (IntKind.wrap .u8 (x1+25):Int) fun z17=>
   bindv (decide (z15≤z17):Bool) fun z18=>
   bindv (z16&&z18:Bool) fun z19=>
   if z19=true then (
    bindv (IntKind.wrap .u8 (z15-x1):Int) fun z21=>
    bindv (IntKind.wrap .u8 (z21+x2):Int) fun z22=>
    chk ((0:Int)≤s8.1∧s8.1<(s8.2.length:Int))<|
    bindv (s8.2.set (Int.toNat s8.1) z22:List Int) fun zb0_24=>
    bindv (IntKind.wrap .i64 (s8.1+1):Int) fun z25=>
    n8 (z25,zb0_24)
   ) else (
    bindv (IntKind.wrap .i64 (s8.1+1):Int) fun z26=>
    n8 (z26,s8.2)
   )
  ) else (
   J4 s8.2
  )
  ) fun B8=>
 loopF B8 KK (0,z2)
def texts_One (x0:List UInt8) (x1:List UInt8):Option (V):=
 bindv (decide (x0=([76,69,78]:List UInt8)):Bool) fun z4=>
 if z4=true then (
  obind (texts_runes x1) fun y6=>
  obind (num_Of y6) fun y7=>
  obind (value_Made y7.1 y7.2) fun y8=>
  some y8
 ) else (
  bindv (decide (x0=([85,80,80,69,82]:List UInt8)):Bool) fun z9=>
  if z9=true then (
   obind (texts_turned x1 (97:Int) (65:Int)) fun y11=>
   obind (value_Text y11) fun y12=>
   some y12
  ) else (
   bindv (decide (x0=([76,79,87,69,82]:List UInt8)):Bool) fun z13=>
   if z13=true then (
    obind (texts_turned x1 (65:Int) (97:Int)) fun y15=>
    obind (value_Text y15) fun y16=>
    some y16
   ) else (
    bindv (decide (x0=([84,82,73,77]:List UInt8)):Bool) fun z17=>
    if z17=true then (
     obind (texts_trimmed x1) fun y19=>
     obind (value_Text y19) fun y20=>
     some y20
    ) else (
     bindv (decide (x0=([86,65,76,85,69]:List UInt8)):Bool) fun z21=>
     if z21=true then (
      obind (value_ToNum (⟨2,0,x1⟩:V)) fun y23=>
      some y23
     ) else (
      obind (value_Fail (2:Int)) fun y24=>
      some y24
     )
    )
   )
  )
 )
def texts_Part (x0:List UInt8) (x1:List UInt8) (x2:List (Int)):Option (V):=
 bindv (decide ((x2.length:Int)=0):Bool) fun z3=>
 if z3=true then (
  obind (value_Fail (2:Int)) fun y5=>
  some y5
 ) else (
  bindv (IntKind.wrap .i64 ((x2.length:Int)-1):Int) fun z6=>
  chk ((0:Int)≤z6∧z6<(x2.length:Int))<|
  bindv (gel x2 z6:Int) fun z8=>
  obind (texts_count z8 x1) fun y9=>
  bindv (!y9.2:Bool) fun z11=>
  if z11=true then (
   obind (value_Fail (2:Int)) fun y13=>
   some y13
  ) else (
   bindv (decide (x0=([76,69,70,84]:List UInt8)):Bool) fun z16=>
   if z16=true then (
    chk ((0:Int)≤y9.1∧y9.1≤(x1.length:Int))<|
    bindv (cutS x1 0 y9.1:List UInt8) fun z19=>
    obind (value_Text z19) fun y20=>
    some y20
   ) else (
    bindv (decide (x0=([82,73,71,72,84]:List UInt8)):Bool) fun z21=>
    if z21=true then (
     bindv (IntKind.wrap .i64 ((x1.length:Int)-y9.1):Int) fun z23=>
     chk ((0:Int)≤z23∧z23≤(x1.length:Int))<|
     bindv (cutS x1 z23 x1.length:List UInt8) fun z25=>
     obind (value_Text z25) fun y26=>
     some y26
    ) else (
     bindv (decide (x0=([77,73,68]:List UInt8)):Bool) fun z27=>
     if z27=true then (
      chk ((0:Int)≤0∧0<(x2.length:Int))<|
      bindv (gel x2 0:Int) fun z30=>
      bindv (IntKind.wrap .i64 (Int.tdiv z30 1000000):Int) fun z31=>
      bindv (decide (z31<1):Bool) fun z33=>
      if z33=true then (
       obind (value_Fail (2:Int)) fun y35=>
       some y35
      ) else (
       bindv (IntKind.wrap .i64 (z31-1):Int) fun z36=>
       bindv (min z36 (x1.length:Int):Int) fun z37=>
       bindv (IntKind.wrap .i64 (z37+y9.1):Int) fun z38=>
       bindv (min z38 (x1.length:Int):Int) fun z39=>
       chk ((0:Int)≤z37∧z37≤z39∧z39≤(x1.length:Int))<|
       bindv (cutS x1 z37 z39:List UInt8) fun z41=>
       obind (value_Text z41) fun y42=>
       some y42
      )
     ) else (
      bindv (decide (x0=([82,69,80,84]:List UInt8)):Bool) fun z43=>
      if z43=true then (
       chk ((0:Int)≤0∧0<(x2.length:Int))<|
       bindv (gel x2 0:Int) fun z46=>
       bindv (IntKind.wrap .i64 (Int.tdiv z46 1000000):Int) fun z47=>
       bindv (decide (64<z47):Bool) fun z49=>
       bindv (!decide (x1=[]):Bool) fun z50=>
       bindv (z49&&z50:Bool) fun z51=>
       if z51=true then (
        obind (value_Fail (2:Int)) fun y53=>
        some y53
       ) else (
        bindv (min z47 64:Int) fun z54=>
        chk (0≤z54∧z54≤9223372036854775807∧x1.length*(Int.toNat z54)≤140737488355328)<|
        bindv (Lib.repeatL x1 (Int.toNat z54):(List UInt8)) fun z57=>
        obind (value_Text z57) fun y58=>
        some y58
       )
      ) else (
       obind (value_Fail (2:Int)) fun y59=>
       some y59
      )
     )
    )
   )
  )
 )
def texts_More (x0:List UInt8) (x1:List (List UInt8)):Option (V):=
 bindv (decide (x0=([67,79,78,67,65,84]:List UInt8)):Bool) fun z3=>
 if z3=true then (
  chk (x1.length≤140737488355328∧(Lib.join x1 []).length≤140737488355328)<|
  bindv (Lib.join x1 []:(List UInt8)) fun z7=>
  obind (value_Text z7) fun y8=>
  some y8
 ) else (
  bindv (decide (x0=([69,88,65,67,84]:List UInt8)):Bool) fun z9=>
  bindv (decide ((x1.length:Int)=2):Bool) fun z10=>
  bindv (z9&&z10:Bool) fun z11=>
  if z11=true then (
   chk ((0:Int)≤0∧0<(x1.length:Int))<|
   bindv (gel x1 0:List UInt8) fun z14=>
   chk ((0:Int)≤1∧1<(x1.length:Int))<|
   bindv (gel x1 1:List UInt8) fun z16=>
   bindv (decide (z14=z16):Bool) fun z17=>
   obind (value_Bool z17) fun y18=>
   some y18
  ) else (
   bindv (decide (x0=([70,73,78,68]:List UInt8)):Bool) fun z19=>
   bindv (decide ((x1.length:Int)=2):Bool) fun z20=>
   bindv (z19&&z20:Bool) fun z21=>
   if z21=true then (
    chk ((0:Int)≤1∧1<(x1.length:Int))<|
    bindv (gel x1 1:List UInt8) fun z24=>
    chk ((0:Int)≤0∧0<(x1.length:Int))<|
    bindv (gel x1 0:List UInt8) fun z26=>
    chk (z24.length<4294967281)<|
    bindv (Lib.index z24 z26:Int) fun z29=>
    bindv (decide (z29<0):Bool) fun z31=>
    if z31=true then (
     obind (value_Fail (2:Int)) fun y33=>
     some y33
    ) else (
     bindv (IntKind.wrap .i64 (z29+1):Int) fun z34=>
     obind (num_Of z34) fun y35=>
     obind (value_Made y35.1 y35.2) fun y36=>
     some y36
    )
   ) else (
    bindv (decide (x0=([83,85,66,83,84,73,84,85,84,69]:List UInt8)):Bool) fun z37=>
    bindv (decide ((x1.length:Int)=3):Bool) fun z38=>
    bindv (z37&&z38:Bool) fun z39=>
    if z39=true then (
     chk ((0:Int)≤1∧1<(x1.length:Int))<|
     bindv (gel x1 1:List UInt8) fun z43=>
     bindv (decide (z43=[]):Bool) fun z44=>
     if z44=true then (
      chk ((0:Int)≤0∧0<(x1.length:Int))<|
      bindv (gel x1 0:List UInt8) fun z47=>
      obind (value_Text z47) fun y48=>
      some y48
     ) else (
      chk ((0:Int)≤0∧0<(x1.length:Int))<|
      bindv (gel x1 0:List UInt8) fun z50=>
      chk ((0:Int)≤1∧1<(x1.length:Int))<|
      bindv (gel x1 1:List UInt8) fun z52=>
      chk ((0:Int)≤2∧2<(x1.length:Int))<|
      bindv (gel x1 2:List UInt8) fun z54=>
      chk (z50.length<4294967281∧1≤z52.length∧z50.length+Lib.countB ⟨z50.toArray⟩ ⟨z52.toArray⟩*z54.length≤140737488355328)<|
      bindv (Lib.replaceAll z50 z52 z54:(List UInt8)) fun z57=>
      obind (value_Text z57) fun y58=>
      some y58
     )
    ) else (
     obind (value_Fail (2:Int)) fun y59=>
     some y59
    )
   )
  )
 )
def lists_SumProduct (x0:List (V)) (x1:List (V)):Option (V):=
 bindv (!decide ((x0.length:Int)=(x1.length:Int)):Bool) fun z3=>
 if z3=true then (
  obind (value_Fail (2:Int)) fun y5=>
  some y5
 ) else (
  obind (value_Num (0:Int)) fun y6=>
  bindv ((fun s9=>
   some (⟨s9.2.2.2.1,s9.2.2.2.2.1,s9.2.2.2.2.2⟩:V)
   ):(Int × Int × (List UInt8) × Int × Int × (List UInt8))→Option (V)) fun J9=>
  bindv (fun (n11:(Int × Int × Int × (List UInt8) × Int × Int × (List UInt8))→Option (V)) (s11:Int × Int × Int × (List UInt8) × Int × Int × (List UInt8))=>
   bindv (decide (s11.1<(x0.length:Int)):Bool) fun z13=>
   if z13=true then (
    chk ((0:Int)≤s11.1∧s11.1<(x0.length:Int))<|
    bindv (gel x0 s11.1:V) fun z19=>
    bindv (!decide (z19.k=1):Bool) fun z20=>
    chk ((!z20)=true→(0:Int)≤s11.1∧s11.1<(x1.length:Int))<|
    bindv (gel x1 s11.1:V) fun z22=>
    bindv (!decide (z22.k=1):Bool) fun z23=>
    bindv (z20||z23:Bool) fun z24=>
    if z24=true then (
     bindv (IntKind.wrap .i64 (s11.1+1):Int) fun z26=>
     n11 (z26,s11.2.1,s11.2.2.1,s11.2.2.2.1,s11.2.2.2.2.1,s11.2.2.2.2.2.1,s11.2.2.2.2.2.2)
    ) else (
     chk ((0:Int)≤s11.1∧s11.1<(x0.length:Int))<|
     bindv (gel x0 s11.1:V) fun z28=>
     chk ((0:Int)≤s11.1∧s11.1<(x1.length:Int))<|
     bindv (gel x1 s11.1:V) fun z30=>
     obind (lists_Product [z28,z30]) fun y31=>
     obind (lists_Sum [(⟨s11.2.2.2.2.1,s11.2.2.2.2.2.1,s11.2.2.2.2.2.2⟩:V),y31]) fun y32=>
     chk ((0:Int)≤s11.1∧s11.1<(x0.length:Int))<|
     bindv (gel x0 s11.1:V) fun z35=>
     chk ((0:Int)≤s11.1∧s11.1<(x1.length:Int))<|
     bindv (gel x1 s11.1:V) fun z37=>
     obind (lists_Product [z35,z37]) fun y38=>
     bindv (decide (y38.k=4):Bool) fun z40=>
     if z40=true then (
      some y38
     ) else (
      bindv (decide (y32.k=4):Bool) fun z42=>
      if z42=true then (
       some y32
      ) else (
       bindv (IntKind.wrap .i64 (s11.1+1):Int) fun z44=>
       n11 (z44,s11.2.1,s11.2.2.1,s11.2.2.2.1,y32.k,y32.n,y32.s)
      )
     )
    )
   ) else (
    J9 (s11.2.1,s11.2.2.1,s11.2.2.2.1,s11.2.2.2.2.1,s11.2.2.2.2.2.1,s11.2.2.2.2.2.2)
   )
   ) fun B11=>
  loopF B11 KK (0,0,0,[],y6.k,y6.n,y6.s)
 )
end Go.Sp
end
section
namespace Go.Sp
open Go.Stp Go.ValP
def funcs_single (x0:Arg):Option (V):=
 bindv (!decide ((x0.l.length:Int)=1):Bool) fun z4=>
 if z4=true then (
  obind (value_Fail (2:Int)) fun y6=>
  some y6
 ) else (
  chk ((0:Int)≤0∧0<(x0.l.length:Int))<|
  bindv (gel x0.l 0:V) fun z8=>
  some z8
 )
def funcs_nums (x0:List (Arg)):Option ((List (Int)) × V):=
 bindv ((fun s3=>
  some (s3.2.2.2,(⟨0,0,[]⟩:V))
  ):(Int × Int × (List UInt8) × (List (Int)))→Option ((List (Int)) × V)) fun J3=>
 bindv (fun (n6:(Int × Int × Int × (List UInt8) × (List (Int)))→Option ((List (Int)) × V)) (s6:Int × Int × Int × (List UInt8) × (List (Int)))=>
  bindv (decide (s6.1<(x0.length:Int)):Bool) fun z9=>
  if z9=true then (
   chk ((0:Int)≤s6.1∧s6.1<(x0.length:Int))<|
   bindv (gel x0 s6.1:Arg) fun z14=>
   obind (funcs_single z14) fun y17=>
   obind (value_ToNum y17) fun y18=>
   bindv (decide (y18.k=4):Bool) fun z21=>
   if z21=true then (
    some ([],y18)
   ) else (
    chk (s6.2.2.2.2.length+[y18.n].length≤9223372036854775807∧(s6.2.2.2.2.length+[y18.n].length)*8≤140737488355328)<|
    bindv (s6.2.2.2.2++[y18.n]:List (Int)) fun z26=>
    bindv (IntKind.wrap .i64 (s6.1+1):Int) fun z27=>
    n6 (z27,s6.2.1,s6.2.2.1,s6.2.2.2.1,z26)
   )
  ) else (
   J3 (s6.2.1,s6.2.2.1,s6.2.2.2.1,s6.2.2.2.2)
  )
  ) fun B6=>
 loopF B6 KK (0,0,0,[],([]:List (Int)))
def funcs_strs (x0:List (Arg)):Option ((List (List UInt8)) × V):=
 bindv ((fun s3=>
  some (s3.2.2.2,(⟨0,0,[]⟩:V))
  ):(Int × Int × (List UInt8) × (List (List UInt8)))→Option ((List (List UInt8)) × V)) fun J3=>
 bindv (fun (n6:(Int × Int × Int × (List UInt8) × (List (List UInt8)))→Option ((List (List UInt8)) × V)) (s6:Int × Int × Int × (List UInt8) × (List (List UInt8)))=>
  bindv (decide (s6.1<(x0.length:Int)):Bool) fun z9=>
  if z9=true then (
   chk ((0:Int)≤s6.1∧s6.1<(x0.length:Int))<|
   bindv (gel x0 s6.1:Arg) fun z14=>
   obind (funcs_single z14) fun y17=>
   obind (value_ToText y17) fun y18=>
   bindv (decide (y18.k=4):Bool) fun z21=>
   if z21=true then (
    some ([],y18)
   ) else (
    chk (s6.2.2.2.2.length+[y18.s].length≤9223372036854775807∧(s6.2.2.2.2.length+[y18.s].length)*16≤140737488355328)<|
    bindv (s6.2.2.2.2++[y18.s]:List (List UInt8)) fun z26=>
    bindv (IntKind.wrap .i64 (s6.1+1):Int) fun z27=>
    n6 (z27,s6.2.1,s6.2.2.1,s6.2.2.2.1,z26)
   )
  ) else (
   J3 (s6.2.1,s6.2.2.1,s6.2.2.2.1,s6.2.2.2.2)
  )
  ) fun B6=>
 loopF B6 KK (0,0,0,[],([]:List (List UInt8)))
def funcs_all (x0:List (Arg)):Option ((List (V))):=
 bindv ((fun s2=>
  some s2
  ):((List (V)))→Option ((List (V)))) fun J2=>
 bindv (fun (n5:(Int × (List (V)))→Option ((List (V)))) (s5:Int × (List (V)))=>
  bindv (decide (s5.1<(x0.length:Int)):Bool) fun z8=>
  if z8=true then (
   chk ((0:Int)≤s5.1∧s5.1<(x0.length:Int))<|
   bindv (gel x0 s5.1:Arg) fun z13=>
   chk (s5.2.length+z13.l.length≤9223372036854775807∧(s5.2.length+z13.l.length)*32≤140737488355328)<|
   bindv (s5.2++z13.l:List (V)) fun z18=>
   bindv (IntKind.wrap .i64 (s5.1+1):Int) fun z19=>
   n5 (z19,z18)
  ) else (
   J2 s5.2
  )
  ) fun B5=>
 loopF B5 KK (0,([]:List (V)))
def funcs_kind (x0:List UInt8) (x1:V):Option (V):=
 bindv (decide (x0=([73,83,78,85,77,66,69,82]:List UInt8)):Bool) fun z5=>
 if z5=true then (
  bindv (decide (x1.k=1):Bool) fun z7=>
  obind (value_Bool z7) fun y8=>
  some y8
 ) else (
  bindv (decide (x0=([73,83,84,69,88,84]:List UInt8)):Bool) fun z9=>
  if z9=true then (
   bindv (decide (x1.k=2):Bool) fun z11=>
   obind (value_Bool z11) fun y12=>
   some y12
  ) else (
   bindv (decide (x0=([73,83,66,76,65,78,75]:List UInt8)):Bool) fun z13=>
   if z13=true then (
    bindv (decide (x1.k=0):Bool) fun z15=>
    obind (value_Bool z15) fun y16=>
    some y16
   ) else (
    bindv (decide (x0=([73,83,69,82,82,79,82]:List UInt8)):Bool) fun z17=>
    if z17=true then (
     bindv (decide (x1.k=4):Bool) fun z19=>
     obind (value_Bool z19) fun y20=>
     some y20
    ) else (
     bindv (decide (x0=([73,83,76,79,71,73,67,65,76]:List UInt8)):Bool) fun z21=>
     if z21=true then (
      bindv (decide (x1.k=3):Bool) fun z23=>
      obind (value_Bool z23) fun y24=>
      some y24
     ) else (
      bindv (decide (x0=([78,79,84]:List UInt8)):Bool) fun z25=>
      if z25=true then (
       obind (value_ToBool x1) fun y27=>
       bindv (decide (y27.k=4):Bool) fun z30=>
       if z30=true then (
        some y27
       ) else (
        bindv (decide (y27.n=0):Bool) fun z32=>
        obind (value_Bool z32) fun y33=>
        some y33
       )
      ) else (
       obind (value_Fail (2:Int)) fun y34=>
       some y34
      )
     )
    )
   )
  )
 )
def funcs_list (x0:List UInt8) (x1:List (Arg)):Option (V):=
 bindv ((fun s5=>
  if s5=true then (
   bindv (decide (x0=([77,65,88]:List UInt8)):Bool) fun z7=>
   obind (funcs_all x1) fun y8=>
   obind (lists_Extreme z7 y8) fun y10=>
   some y10
  ) else (
   bindv (decide (x0=([83,85,77]:List UInt8)):Bool) fun z11=>
   if z11=true then (
    obind (funcs_all x1) fun y13=>
    obind (lists_Sum y13) fun y15=>
    some y15
   ) else (
    bindv (decide (x0=([80,82,79,68,85,67,84]:List UInt8)):Bool) fun z16=>
    if z16=true then (
     obind (funcs_all x1) fun y18=>
     obind (lists_Product y18) fun y20=>
     some y20
    ) else (
     bindv (decide (x0=([67,79,85,78,84]:List UInt8)):Bool) fun z21=>
     if z21=true then (
      obind (funcs_all x1) fun y23=>
      obind (lists_Count (1:Int) true y23) fun y25=>
      some y25
     ) else (
      bindv (decide (x0=([67,79,85,78,84,65]:List UInt8)):Bool) fun z26=>
      if z26=true then (
       obind (funcs_all x1) fun y28=>
       obind (lists_Count (0:Int) false y28) fun y30=>
       some y30
      ) else (
       bindv (decide (x0=([67,79,85,78,84,66,76,65,78,75]:List UInt8)):Bool) fun z31=>
       if z31=true then (
        obind (funcs_all x1) fun y33=>
        obind (lists_Count (0:Int) true y33) fun y35=>
        some y35
       ) else (
        bindv (decide (x0=([65,86,69,82,65,71,69]:List UInt8)):Bool) fun z36=>
        if z36=true then (
         obind (funcs_all x1) fun y38=>
         obind (lists_Average y38) fun y40=>
         some y40
        ) else (
         bindv (decide (x0=([67,79,85,78,84,73,70]:List UInt8)):Bool) fun z41=>
         if z41=true then (
          chk ((0:Int)≤1∧1<(x1.length:Int))<|
          bindv (gel x1 1:Arg) fun z44=>
          obind (funcs_single z44) fun y46=>
          chk ((0:Int)≤0∧0<(x1.length:Int))<|
          bindv (gel x1 0:Arg) fun z48=>
          obind (lists_CountIf y46 z48.l) fun y50=>
          some y50
         ) else (
          bindv (decide (x0=([83,85,77,73,70]:List UInt8)):Bool) fun z51=>
          if z51=true then (
           chk ((0:Int)≤1∧1<(x1.length:Int))<|
           bindv (gel x1 1:Arg) fun z54=>
           obind (funcs_single z54) fun y56=>
           chk ((0:Int)≤0∧0<(x1.length:Int))<|
           bindv (gel x1 0:Arg) fun z58=>
           obind (lists_SumIf y56 z58.l) fun y60=>
           some y60
          ) else (
           bindv (decide (x0=([83,85,77,80,82,79,68,85,67,84]:List UInt8)):Bool) fun z61=>
           if z61=true then (
            chk ((0:Int)≤0∧0<(x1.length:Int))<|
            bindv (gel x1 0:Arg) fun z64=>
            chk ((0:Int)≤1∧1<(x1.length:Int))<|
            bindv (gel x1 1:Arg) fun z67=>
            obind (lists_SumProduct z64.l z67.l) fun y69=>
            some y69
           ) else (
            bindv (decide (x0=([77,65,84,67,72]:List UInt8)):Bool) fun z70=>
            if z70=true then (
             chk ((0:Int)≤0∧0<(x1.length:Int))<|
             bindv (gel x1 0:Arg) fun z73=>
             obind (funcs_single z73) fun y75=>
             chk ((0:Int)≤1∧1<(x1.length:Int))<|
             bindv (gel x1 1:Arg) fun z77=>
             obind (lists_Match y75 z77.l) fun y79=>
             some y79
            ) else (
             bindv (decide (x0=([82,79,87,83]:List UInt8)):Bool) fun z80=>
             if z80=true then (
              chk ((0:Int)≤0∧0<(x1.length:Int))<|
              bindv (gel x1 0:Arg) fun z83=>
              chk ((0:Int)≤0∧0<(x1.length:Int))<|
              bindv (gel x1 0:Arg) fun z86=>
              bindv (max z86.cols 1:Int) fun z88=>
              chk (z88≠0)<|
              bindv (IntKind.wrap .i64 (Int.tdiv (z83.l.length:Int) z88):Int) fun z90=>
              obind (num_Of z90) fun y91=>
              obind (value_Made y91.1 y91.2) fun y92=>
              some y92
             ) else (
              bindv (decide (x0=([67,79,76,85,77,78,83]:List UInt8)):Bool) fun z93=>
              if z93=true then (
               chk ((0:Int)≤0∧0<(x1.length:Int))<|
               bindv (gel x1 0:Arg) fun z96=>
               obind (num_Of z96.cols) fun y98=>
               obind (value_Made y98.1 y98.2) fun y99=>
               some y99
              ) else (
               bindv (decide (x0=([78,65]:List UInt8)):Bool) fun z100=>
               if z100=true then (
                obind (value_Fail (6:Int)) fun y102=>
                some y102
               ) else (
                bindv (decide (x0=([73,78,68,69,88]:List UInt8)):Bool) fun z103=>
                if z103=true then (
                 chk ((0:Int)≤(1:Int)∧(1:Int)≤(x1.length:Int)∧(x1.length:Int)≤(x1.length:Int))<|
                 bindv (cutL x1 (1:Int) (x1.length:Int):List (Arg)) fun z106=>
                 obind (funcs_nums z106) fun y108=>
                 bindv (decide (y108.2.k=4):Bool) fun z112=>
                 if z112=true then (
                  some y108.2
                 ) else (
                  chk ((0:Int)≤0∧0<(x1.length:Int))<|
                  bindv (gel x1 0:Arg) fun z115=>
                  chk ((0:Int)≤0∧0<(y108.1.length:Int))<|
                  bindv (gel y108.1 0:Int) fun z118=>
                  bindv (IntKind.wrap .i64 (Int.tdiv z118 1000000):Int) fun z119=>
                  chk ((0:Int)≤1∧1<(y108.1.length:Int))<|
                  bindv (gel y108.1 1:Int) fun z121=>
                  bindv (IntKind.wrap .i64 (Int.tdiv z121 1000000):Int) fun z122=>
                  chk ((0:Int)≤0∧0<(x1.length:Int))<|
                  bindv (gel x1 0:Arg) fun z124=>
                  obind (lists_Index z115.cols z119 z122 z124.l) fun y126=>
                  some y126
                 )
                ) else (
                 bindv (decide (x0=([86,76,79,79,75,85,80]:List UInt8)):Bool) fun z127=>
                 if z127=true then (
                  chk ((0:Int)≤(2:Int)∧(2:Int)≤(x1.length:Int)∧(x1.length:Int)≤(x1.length:Int))<|
                  bindv (cutL x1 (2:Int) (x1.length:Int):List (Arg)) fun z130=>
                  obind (funcs_nums z130) fun y132=>
                  bindv (decide (y132.2.k=4):Bool) fun z136=>
                  if z136=true then (
                   some y132.2
                  ) else (
                   chk ((0:Int)≤0∧0<(x1.length:Int))<|
                   bindv (gel x1 0:Arg) fun z139=>
                   obind (funcs_single z139) fun y141=>
                   chk ((0:Int)≤1∧1<(x1.length:Int))<|
                   bindv (gel x1 1:Arg) fun z143=>
                   chk ((0:Int)≤0∧0<(y132.1.length:Int))<|
                   bindv (gel y132.1 0:Int) fun z146=>
                   bindv (IntKind.wrap .i64 (Int.tdiv z146 1000000):Int) fun z147=>
                   chk ((0:Int)≤1∧1<(x1.length:Int))<|
                   bindv (gel x1 1:Arg) fun z149=>
                   obind (lists_VLookup y141 z143.cols z147 z149.l) fun y151=>
                   some y151
                  )
                 ) else (
                  chk ((0:Int)≤0∧0<(x1.length:Int))<|
                  bindv (gel x1 0:Arg) fun z153=>
                  obind (funcs_single z153) fun y155=>
                  obind (funcs_kind x0 y155) fun y156=>
                  some y156
                 )
                )
               )
              )
             )
            )
           )
          )
         )
        )
       )
      )
     )
    )
   )
  )
  ):(Bool)→Option (V)) fun J5=>
 bindv (decide (x0=([77,73,78]:List UInt8)):Bool) fun z157=>
 if z157=true then (
  J5 z157
 ) else (
  bindv (decide (x0=([77,65,88]:List UInt8)):Bool) fun z159=>
  J5 z159
 )
def funcs_Apply (x0:Int) (x1:List (Arg)):Option (V):=
 obind (tree_Name x0) fun y2=>
 obind (tree_Fits x0 (x1.length:Int)) fun y4=>
 bindv (!y4:Bool) fun z5=>
 if z5=true then (
  obind (value_Fail (2:Int)) fun y7=>
  some y7
 ) else (
  bindv ((fun s11=>
   if s11=true then (
    obind (funcs_nums x1) fun y13=>
    bindv (decide (y13.2.k=4):Bool) fun z17=>
    if z17=true then (
     some y13.2
    ) else (
     bindv (decide ((y13.1.length:Int)=1):Bool) fun z20=>
     if z20=true then (
      chk ((0:Int)≤0∧0<(y13.1.length:Int))<|
      bindv (gel y13.1 0:Int) fun z23=>
      obind (maths_One y2 z23) fun y24=>
      some y24
     ) else (
      chk ((0:Int)≤0∧0<(y13.1.length:Int))<|
      bindv (gel y13.1 0:Int) fun z26=>
      chk ((0:Int)≤1∧1<(y13.1.length:Int))<|
      bindv (gel y13.1 1:Int) fun z28=>
      obind (maths_Two y2 z26 z28) fun y29=>
      some y29
     )
    )
   ) else (
    bindv ((fun s31=>
     if s31=true then (
      obind (funcs_strs x1) fun y33=>
      bindv (decide (y33.2.k=4):Bool) fun z37=>
      if z37=true then (
       some y33.2
      ) else (
       bindv (decide ((y33.1.length:Int)=1):Bool) fun z40=>
       bindv (!decide (y2=([67,79,78,67,65,84]:List UInt8)):Bool) fun z41=>
       bindv (z40&&z41:Bool) fun z42=>
       if z42=true then (
        chk ((0:Int)≤0∧0<(y33.1.length:Int))<|
        bindv (gel y33.1 0:List UInt8) fun z45=>
        obind (texts_One y2 z45) fun y46=>
        some y46
       ) else (
        obind (texts_More y2 y33.1) fun y47=>
        some y47
       )
      )
     ) else (
      bindv ((fun s49=>
       if s49=true then (
        chk ((0:Int)≤(0:Int)∧(0:Int)≤(1:Int)∧(1:Int)≤(x1.length:Int))<|
        bindv (cutL x1 (0:Int) (1:Int):List (Arg)) fun z52=>
        obind (funcs_strs z52) fun y54=>
        bindv (decide (y54.2.k=4):Bool) fun z58=>
        if z58=true then (
         some y54.2
        ) else (
         chk ((0:Int)≤(1:Int)∧(1:Int)≤(x1.length:Int)∧(x1.length:Int)≤(x1.length:Int))<|
         bindv (cutL x1 (1:Int) (x1.length:Int):List (Arg)) fun z61=>
         obind (funcs_nums z61) fun y63=>
         bindv (decide (y63.2.k=4):Bool) fun z66=>
         if z66=true then (
          some y63.2
         ) else (
          chk ((0:Int)≤0∧0<(y54.1.length:Int))<|
          bindv (gel y54.1 0:List UInt8) fun z69=>
          obind (texts_Part y2 z69 y63.1) fun y70=>
          some y70
         )
        )
       ) else (
        obind (funcs_list y2 x1) fun y71=>
        some y71
       )
       ):(Bool)→Option (V)) fun J49=>
      bindv (decide (y2=([76,69,70,84]:List UInt8)):Bool) fun z72=>
      if z72=true then (
       J49 z72
      ) else (
       bindv (decide (y2=([82,73,71,72,84]:List UInt8)):Bool) fun z74=>
       if z74=true then (
        J49 z74
       ) else (
        bindv (decide (y2=([77,73,68]:List UInt8)):Bool) fun z76=>
        if z76=true then (
         J49 z76
        ) else (
         bindv (decide (y2=([82,69,80,84]:List UInt8)):Bool) fun z78=>
         J49 z78
        )
       )
      )
     )
     ):(Bool)→Option (V)) fun J31=>
    bindv (decide (y2=([76,69,78]:List UInt8)):Bool) fun z79=>
    if z79=true then (
     J31 z79
    ) else (
     bindv (decide (y2=([85,80,80,69,82]:List UInt8)):Bool) fun z81=>
     if z81=true then (
      J31 z81
     ) else (
      bindv (decide (y2=([76,79,87,69,82]:List UInt8)):Bool) fun z83=>
      if z83=true then (
       J31 z83
      ) else (
       bindv (decide (y2=([84,82,73,77]:List UInt8)):Bool) fun z85=>
       if z85=true then (
        J31 z85
       ) else (
        bindv (decide (y2=([86,65,76,85,69]:List UInt8)):Bool) fun z87=>
        if z87=true then (
         J31 z87
        ) else (
         bindv (decide (y2=([67,79,78,67,65,84]:List UInt8)):Bool) fun z89=>
         if z89=true then (
          J31 z89
         ) else (
          bindv (decide (y2=([69,88,65,67,84]:List UInt8)):Bool) fun z91=>
          if z91=true then (
           J31 z91
          ) else (
           bindv (decide (y2=([70,73,78,68]:List UInt8)):Bool) fun z93=>
           if z93=true then (
            J31 z93
           ) else (
            bindv (decide (y2=([83,85,66,83,84,73,84,85,84,69]:List UInt8)):Bool) fun z95=>
            J31 z95
           )
          )
         )
        )
       )
      )
     )
    )
   )
   ):(Bool)→Option (V)) fun J11=>
  bindv (decide (y2=([65,66,83]:List UInt8)):Bool) fun z96=>
  if z96=true then (
   J11 z96
  ) else (
   bindv (decide (y2=([83,73,71,78]:List UInt8)):Bool) fun z98=>
   if z98=true then (
    J11 z98
   ) else (
    bindv (decide (y2=([73,78,84]:List UInt8)):Bool) fun z100=>
    if z100=true then (
     J11 z100
    ) else (
     bindv (decide (y2=([84,82,85,78,67]:List UInt8)):Bool) fun z102=>
     if z102=true then (
      J11 z102
     ) else (
      bindv (decide (y2=([69,86,69,78]:List UInt8)):Bool) fun z104=>
      if z104=true then (
       J11 z104
      ) else (
       bindv (decide (y2=([79,68,68]:List UInt8)):Bool) fun z106=>
       if z106=true then (
        J11 z106
       ) else (
        bindv (decide (y2=([70,65,67,84]:List UInt8)):Bool) fun z108=>
        if z108=true then (
         J11 z108
        ) else (
         bindv (decide (y2=([82,79,85,78,68]:List UInt8)):Bool) fun z110=>
         if z110=true then (
          J11 z110
         ) else (
          bindv (decide (y2=([77,79,68]:List UInt8)):Bool) fun z112=>
          if z112=true then (
           J11 z112
          ) else (
           bindv (decide (y2=([80,79,87,69,82]:List UInt8)):Bool) fun z114=>
           if z114=true then (
            J11 z114
           ) else (
            bindv (decide (y2=([81,85,79,84,73,69,78,84]:List UInt8)):Bool) fun z116=>
            if z116=true then (
             J11 z116
            ) else (
             bindv (decide (y2=([71,67,68]:List UInt8)):Bool) fun z118=>
             if z118=true then (
              J11 z118
             ) else (
              bindv (decide (y2=([76,67,77]:List UInt8)):Bool) fun z120=>
              J11 z120
             )
            )
           )
          )
         )
        )
       )
      )
     )
    )
   )
  )
 )
def funcs_Binary (x0:Int) (x1:V) (x2:V):Option (V):=
 bindv (decide (6≤x0):Bool) fun z5=>
 if z5=true then (
  obind (value_Compare x1 x2) fun y7=>
  bindv (decide (y7=0):Bool) fun z8=>
  bindv (!decide (y7=0):Bool) fun z9=>
  bindv (decide (y7<0):Bool) fun z10=>
  bindv (decide (y7≤0):Bool) fun z11=>
  bindv (decide (0<y7):Bool) fun z12=>
  bindv (decide (0≤y7):Bool) fun z13=>
  bindv (IntKind.wrap .i64 (x0-6):Int) fun z14=>
  chk ((0:Int)≤z14∧z14<(6:Int))<|
  bindv (gel [z8,z9,z10,z11,z12,z13] z14:Bool) fun z16=>
  obind (value_Bool z16) fun y17=>
  some y17
 ) else (
  bindv (decide (x0=5):Bool) fun z18=>
  if z18=true then (
   obind (value_Show x1) fun y20=>
   obind (value_Show x2) fun y21=>
   chk (y20.length+y21.length≤9223372036854775807)<|
   bindv (y20++y21:List UInt8) fun z23=>
   obind (value_Text z23) fun y24=>
   some y24
  ) else (
   obind (value_ToNum x1) fun y25=>
   obind (value_ToNum x2) fun y26=>
   bindv (decide (y25.k=4):Bool) fun z30=>
   if z30=true then (
    some y25
   ) else (
    bindv (decide (y26.k=4):Bool) fun z33=>
    if z33=true then (
     some y26
    ) else (
     bindv (decide (x0=1):Bool) fun z37=>
     if z37=true then (
      obind (num_Add y25.n y26.n) fun y39=>
      obind (value_Made y39.1 y39.2) fun y40=>
      some y40
     ) else (
      bindv (decide (x0=2):Bool) fun z41=>
      if z41=true then (
       obind (num_Sub y25.n y26.n) fun y43=>
       obind (value_Made y43.1 y43.2) fun y44=>
       some y44
      ) else (
       bindv (decide (x0=3):Bool) fun z45=>
       if z45=true then (
        obind (num_Mul y25.n y26.n) fun y47=>
        obind (value_Made y47.1 y47.2) fun y48=>
        some y48
       ) else (
        bindv (decide (y26.n=0):Bool) fun z50=>
        if z50=true then (
         obind (value_Fail (1:Int)) fun y52=>
         some y52
        ) else (
         obind (num_Quo y25.n y26.n) fun y53=>
         obind (value_Made y53.1 y53.2) fun y54=>
         some y54
        )
       )
      )
     )
    )
   )
  )
 )
def funcs_Unary (x0:Int) (x1:V):Option (V):=
 obind (value_ToNum x1) fun y3=>
 bindv (decide (y3.k=4):Bool) fun z6=>
 if z6=true then (
  some y3
 ) else (
  bindv (decide (x0=5):Bool) fun z9=>
  if z9=true then (
   bindv (IntKind.wrap .i64 (-y3.n):Int) fun z11=>
   obind (value_Num z11) fun y12=>
   some y12
  ) else (
   obind (num_Quo y3.n (100000000:Int)) fun y13=>
   obind (value_Made y13.1 y13.2) fun y14=>
   some y14
  )
 )
def funcs_Bears (x0:Int):Option (Bool):=
 obind (tree_Name x0) fun y2=>
 bindv ((fun s5=>
  if s5=true then (
   some true
  ) else (
   some false
  )
  ):(Bool)→Option (Bool)) fun J5=>
 bindv (decide (y2=([67,79,85,78,84]:List UInt8)):Bool) fun z7=>
 if z7=true then (
  J5 z7
 ) else (
  bindv (decide (y2=([67,79,85,78,84,65]:List UInt8)):Bool) fun z9=>
  if z9=true then (
   J5 z9
  ) else (
   bindv (decide (y2=([67,79,85,78,84,66,76,65,78,75]:List UInt8)):Bool) fun z11=>
   if z11=true then (
    J5 z11
   ) else (
    bindv (decide (y2=([73,83,78,85,77,66,69,82]:List UInt8)):Bool) fun z13=>
    if z13=true then (
     J5 z13
    ) else (
     bindv (decide (y2=([73,83,84,69,88,84]:List UInt8)):Bool) fun z15=>
     if z15=true then (
      J5 z15
     ) else (
      bindv (decide (y2=([73,83,66,76,65,78,75]:List UInt8)):Bool) fun z17=>
      if z17=true then (
       J5 z17
      ) else (
       bindv (decide (y2=([73,83,69,82,82,79,82]:List UInt8)):Bool) fun z19=>
       if z19=true then (
        J5 z19
       ) else (
        bindv (decide (y2=([73,83,76,79,71,73,67,65,76]:List UInt8)):Bool) fun z21=>
        if z21=true then (
         J5 z21
        ) else (
         bindv (decide (y2=([82,79,87,83]:List UInt8)):Bool) fun z23=>
         if z23=true then (
          J5 z23
         ) else (
          bindv (decide (y2=([67,79,76,85,77,78,83]:List UInt8)):Bool) fun z25=>
          J5 z25
         )
        )
       )
      )
     )
    )
   )
  )
 )
end Go.Sp
end
section
namespace Go.Sp
open Go.Stp Go.ValP
def tree_Value (x0:V):Option (Nd):=
 some ((⟨1,0,x0,(⟨(⟨0,0,0⟩:C),false,false⟩:Rf),(⟨(⟨0,0,0⟩:C),false,false⟩:Rf),[],[]⟩:Nd))
def tree_Cell (x0:Rf):Option (Nd):=
 some ((⟨2,0,(⟨0,0,[]⟩:V),x0,(⟨(⟨0,0,0⟩:C),false,false⟩:Rf),[],[]⟩:Nd))
def tree_Apply (x0:Int) (x1:List (Nd)):Option (Nd):=
 chk (([]:List (Nd)).length+x1.length≤9223372036854775807∧(([]:List (Nd)).length+x1.length)*152≤140737488355328)<|
 bindv (([]:List (Nd))++x1:List (Nd)) fun z4=>
 some ((⟨8,x0,(⟨0,0,[]⟩:V),(⟨(⟨0,0,0⟩:C),false,false⟩:Rf),(⟨(⟨0,0,0⟩:C),false,false⟩:Rf),[],z4⟩:Nd))
def tree_Unary (x0:Int) (x1:Nd):Option (Nd):=
 some ((⟨x0,0,(⟨0,0,[]⟩:V),(⟨(⟨0,0,0⟩:C),false,false⟩:Rf),(⟨(⟨0,0,0⟩:C),false,false⟩:Rf),[],[x1]⟩:Nd))
def tree_Binary (x0:Int) (x1:Nd) (x2:Nd):Option (Nd):=
 some ((⟨7,x0,(⟨0,0,[]⟩:V),(⟨(⟨0,0,0⟩:C),false,false⟩:Rf),(⟨(⟨0,0,0⟩:C),false,false⟩:Rf),[],[x1,x2]⟩:Nd))
def tree_Span (x0:Rf) (x1:Rf):Option (Nd):=
 some (⟨3,0,(⟨0,0,[]⟩:V),x0,x1,[],[]⟩:Nd)
def addr_Order (x0:C) (x1:C):Option (C × C × Bool):=
 bindv (!decide (x0.s=x1.s):Bool) fun z6=>
 if z6=true then (
  some (x0,x1,false)
 ) else (
  bindv (min x0.c x1.c:Int) fun z8=>
  bindv (min x0.r x1.r:Int) fun z9=>
  bindv (max x0.c x1.c:Int) fun z10=>
  bindv (max x0.r x1.r:Int) fun z11=>
  some ((⟨x0.s,z8,z9⟩:C),(⟨x0.s,z10,z11⟩:C),true)
 )
def reckonerref13_Place_At (x0:List V) (x1:C):Option (V):=
 bindv (decide (x1.s<0):Bool) fun z4=>
 bindv (decide (1<x1.s):Bool) fun z5=>
 bindv (z4||z5:Bool) fun z6=>
 bindv (decide (x1.c<0):Bool) fun z7=>
 bindv (z6||z7:Bool) fun z8=>
 bindv (decide (7<x1.c):Bool) fun z9=>
 bindv (z8||z9:Bool) fun z10=>
 bindv (decide (x1.r<0):Bool) fun z11=>
 bindv (z10||z11:Bool) fun z12=>
 bindv (decide (7<x1.r):Bool) fun z13=>
 bindv (z12||z13:Bool) fun z14=>
 if z14=true then (
  some (⟨0,0,[]⟩:V)
 ) else (
  bindv (IntKind.wrap .i64 (8*x1.r):Int) fun z16=>
  bindv (IntKind.wrap .i64 (z16+x1.c):Int) fun z17=>
  chk ((0:Int)≤x1.s∧x1.s<(2:Int))<|
  chk ((0:Int)≤z17∧z17<(64:Int))<|
  bindv (gel x0 (64*x1.s+z17):V) fun z20=>
  some z20
 )
def reckonerref13_Place_Value (x0:List V) (x1:C):Option (V × C):=
 obind (reckonerref13_Place_At x0 x1) fun y4=>
 bindv (decide (y4.k=4):Bool) fun z7=>
 if z7=true then (
  some (y4,x1)
 ) else (
  some (y4,(⟨0,0,0⟩:C))
 )
def reckonerref13_Place_Name (x0:List V) (x1:List UInt8):Option (Nd × Bool):=
 bindv (decide (x1=([82,65,84,69]:List UInt8)):Bool) fun z4=>
 if z4=true then (
  some ((⟨2,0,(⟨0,0,[]⟩:V),(⟨(⟨0,0,0⟩:C),false,false⟩:Rf),(⟨(⟨0,0,0⟩:C),false,false⟩:Rf),[],[]⟩:Nd),true)
 ) else (
  bindv (decide (x1=([76,73,83,84]:List UInt8)):Bool) fun z7=>
  if z7=true then (
   some ((⟨3,0,(⟨0,0,[]⟩:V),(⟨(⟨0,0,0⟩:C),false,false⟩:Rf),(⟨(⟨0,1,1⟩:C),false,false⟩:Rf),[],[]⟩:Nd),true)
  ) else (
   some ((⟨0,0,(⟨0,0,[]⟩:V),(⟨(⟨0,0,0⟩:C),false,false⟩:Rf),(⟨(⟨0,0,0⟩:C),false,false⟩:Rf),[],[]⟩:Nd),false)
  )
 )
def reckonerlaw13_Place (x0:List (V)):Option (List V):=
 bindv ((fun s3=>
  some s3
  ):((List V))→Option (List V)) fun J3=>
 bindv (fun (n5:(Int × (List V))→Option (List V)) (s5:Int × (List V))=>
  bindv (decide (s5.1<(x0.length:Int)):Bool) fun z7=>
  if z7=true then (
   chk ((0:Int)≤s5.1∧s5.1<(x0.length:Int))<|
   bindv (gel x0 s5.1:V) fun z12=>
   bindv (decide (s5.1<128):Bool) fun z14=>
   bindv (decide ((z12.s.length:Int)≤64):Bool) fun z15=>
   bindv (z14&&z15:Bool) fun z16=>
   obind (if z16=true then value_Right z12 else some default) fun y17=>
   bindv (z16&&y17:Bool) fun z18=>
   if z18=true then (
    bindv (bits .and .i64 s5.1 1:Int) fun z20=>
    bindv (IntKind.wrap .i64 (Int.tdiv s5.1 2):Int) fun z21=>
    chk ((0:Int)≤z20∧z20<(2:Int))<|
    chk ((0:Int)≤z21∧z21<(64:Int))<|
    bindv (s5.2.set (Int.toNat (64*z20+z21)) z12:List V) fun zp24=>
    bindv (IntKind.wrap .i64 (s5.1+1):Int) fun z25=>
    n5 (z25,zp24)
   ) else (
    bindv (IntKind.wrap .i64 (s5.1+1):Int) fun z26=>
    n5 (z26,s5.2)
   )
  ) else (
   J3 s5.2
  )
  ) fun B5=>
 loopF B5 KK (0,zeroPl)
def eval_Area (x0:List V) (x1:Nd):Option (C × C × Bool):=
 bindv ((fun s5=>
  bindv (decide (s5.1=3):Bool) fun z9=>
  if z9=true then (
   obind (addr_Order (⟨s5.2.2.2.2.2.1,s5.2.2.2.2.2.2.1,s5.2.2.2.2.2.2.2.1⟩:C) (⟨s5.2.2.2.2.2.2.2.2.2.2.1,s5.2.2.2.2.2.2.2.2.2.2.2.1,s5.2.2.2.2.2.2.2.2.2.2.2.2.1⟩:C)) fun y11=>
   some (y11.1,y11.2.1,y11.2.2)
  ) else (
   bindv (decide (s5.1=2):Bool) fun z12=>
   if z12=true then (
    some ((⟨s5.2.2.2.2.2.1,s5.2.2.2.2.2.2.1,s5.2.2.2.2.2.2.2.1⟩:C),(⟨s5.2.2.2.2.2.1,s5.2.2.2.2.2.2.1,s5.2.2.2.2.2.2.2.1⟩:C),true)
   ) else (
    some ((⟨0,0,0⟩:C),(⟨0,0,0⟩:C),false)
   )
  )
  ):(Int × Int × Int × Int × (List UInt8) × Int × Int × Int × Bool × Bool × Int × Int × Int × Bool × Bool × (List UInt8) × (List (Nd)))→Option (C × C × Bool)) fun J5=>
 bindv (decide (x1.k=4):Bool) fun z14=>
 if z14=true then (
  obind (reckonerref13_Place_Name x0 x1.nm) fun y16=>
  if y16.2=true then (
   J5 (y16.1.k,y16.1.op,y16.1.v.k,y16.1.v.n,y16.1.v.s,y16.1.a.c.s,y16.1.a.c.c,y16.1.a.c.r,y16.1.a.ac,y16.1.a.ar,y16.1.b.c.s,y16.1.b.c.c,y16.1.b.c.r,y16.1.b.ac,y16.1.b.ar,y16.1.nm,y16.1.l)
  ) else (
   J5 (x1.k,x1.op,x1.v.k,x1.v.n,x1.v.s,x1.a.c.s,x1.a.c.c,x1.a.c.r,x1.a.ac,x1.a.ar,x1.b.c.s,x1.b.c.c,x1.b.c.r,x1.b.ac,x1.b.ar,x1.nm,x1.l)
  )
 ) else (
  J5 (x1.k,x1.op,x1.v.k,x1.v.n,x1.v.s,x1.a.c.s,x1.a.c.c,x1.a.c.r,x1.a.ac,x1.a.ar,x1.b.c.s,x1.b.c.c,x1.b.c.r,x1.b.ac,x1.b.ar,x1.nm,x1.l)
 )
def eval_run_made (x0:Rn) (x1:V):Option (Gt):=
 some (⟨x1,x0.c⟩:Gt)
def eval_run_cell (x0:Rn) (x1:C) (m0:List (C × Bool)):Option ((Gt) × List (C × Bool)):=
 bindv (mput m0 x1 true:List (C × Bool)) fun zm3=>
 obind (reckonerref13_Place_Value x0.p x1) fun y4=>
 some ((⟨y4.1,y4.2⟩:Gt),zm3)
end Go.Sp
end
