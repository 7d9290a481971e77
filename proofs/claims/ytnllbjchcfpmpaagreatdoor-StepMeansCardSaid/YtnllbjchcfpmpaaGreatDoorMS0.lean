/- Joined texts. -/
import Derived.Lib.Fields
import Derived.Lib.Atoi
import Derived.Lib.Join
import Derived.Lib.Replace
import Derived.Lib.Repeat
import Derived.Lib.ItoaNum
import Derived.Test.YtnllbjchcfpmpaaGreatDoorML1
set_option linter.all false
section
namespace Go.Sp
open Go.Stp Go.ValP
def bW(x0:Int):Option (V):=
 some (⟨1,x0,[]⟩:V)
def aG(x0:Int):Option (V):=
 some (⟨4,x0,[]⟩:V)
def bu(x0:Bool):Option (V):=
 aa ((λg=>
  some (⟨3,g,[]⟩:V)
  ):(Int)->Option (V)) λf=>
 if x0=true then(
  f 1
 )else(
  f 0
 )
def bw(x0:List UInt8):Option (V):=
 aa (decide (64<(x0.length:Int)):Bool) λf=>
 if f=true then(
  obind (aG (2:Int)) λg=>
  some g
 )else(
  some (⟨2,0,x0⟩:V)
 )
def bz(x0:Int) (f:Bool):Option (V):=
 aa (!f:Bool) λg=>
 if g=true then(
  obind (aG (5:Int)) λu=>
  some u
 )else(
  obind (bW x0) λE=>
  some E
 )
def co(x0:V):Option (Bool):=
 aa (decide (x0.k=0):Bool) λz4=>
 if z4=true then(
  aa (decide (x0.n=0):Bool) λz6=>
  aa (decide (x0.s=[]):Bool) λz7=>
  aa (z6&&z7:Bool) λz8=>
  some z8
 )else(
  aa (decide (x0.k=1):Bool) λz9=>
  if z9=true then(
   aa (!decide (x0.n=(-9223372036854775808)):Bool) λf=>
   aa (decide (x0.s=[]):Bool) λg=>
   aa (f&&g:Bool) λu=>
   some u
  )else(
   aa (decide (x0.k=2):Bool) λE=>
   if E=true then(
    aa (decide (x0.n=0):Bool) λF=>
    aa (decide ((x0.s.length:Int)<=64):Bool) λG=>
    aa (F&&G:Bool) λH=>
    some H
   )else(
    aa (decide (x0.k=3):Bool) λJ=>
    if J=true then(
     aa (bits .and .i64 x0.n 1:Int) λW=>
     aa (decide (W=x0.n):Bool) λX=>
     aa (decide (x0.s=[]):Bool) λY=>
     aa (X&&Y:Bool) λa1=>
     some a1
    )else(
     aa (decide (x0.k=4):Bool) λa6=>
     if a6=true then(
      aa (decide (1<=x0.n):Bool) λa7=>
      aa (decide (x0.n<=7):Bool) λa8=>
      aa (a7&&a8:Bool) λad=>
      aa (decide (x0.s=[]):Bool) λaf=>
      aa (ad&&af:Bool) λao=>
      some ao
     )else(
      some false
     )
    )
   )
  )
 )
def gO(x0 F:V):Option (V):=
 aa (!decide (x0.k=0):Bool) λG=>
 if G=true then(
  some x0
 )else(
  aa (decide (F.k=2):Bool) λH=>
  if H=true then(
   obind (bw []) λf=>
   some f
  )else(
   aa (decide (F.k=3):Bool) λg=>
   if g=true then(
    obind (bu false) λu=>
    some u
   )else(
    obind (bW (0:Int)) λE=>
    some E
   )
  )
 )
def kw(x0:V):Option (Int):=
 some x0.k
def m7(x0:Int):Option (Bool):=
 aa (decide ((-9223372036854775807)<=x0):Bool) λf=>
 some f
def kL(x0 g:Int):Option (Int × Bool):=
 aa (IntKind.wrap .i64 (x0+g):Int) λf=>
 obind (m7 f) λu=>
 aa (decide (x0<f):Bool) λE=>
 aa (decide (0<g):Bool) λF=>
 aa (E == F:Bool) λG=>
 aa (u&&G:Bool) λH=>
 some (f,H)
def l_(x0 g:Int):Option (Int × Bool):=
 aa (IntKind.wrap .i64 (-g):Int) λu=>
 obind (kL x0 u) λf=>
 some (f.1,f.2)
def f_(x0:Int):Option (Int):=
 aa (decide (x0<0):Bool) λf=>
 if f=true then(
  aa (IntKind.wrap .u64 x0:Int) λg=>
  aa (IntKind.wrap .u64 (-g):Int) λu=>
  some u
 )else(
  aa (IntKind.wrap .u64 x0:Int) λE=>
  some E
 )
def dQ(x0:Int) (f:Bool):Option (Int × Bool):=
 aa (decide (9223372036854775807<x0):Bool) λg=>
 if g=true then(
  some (0,false)
 )else(
  if f=true then(
   aa (IntKind.wrap .i64 x0:Int) λu=>
   aa (IntKind.wrap .i64 (-u):Int) λE=>
   some (E,true)
  )else(
   aa (IntKind.wrap .i64 x0:Int) λF=>
   some (F,true)
  )
 )
def ri:List UInt8:=[35,68,73,86,47,48,33,32,35,86,65,76,85,69,33,32,35,82,69,70,33,32,35,78,65,77,69,63,32,35,78,85,77,33,32,35,78,47,65,32,35,67,89,67,76,69,33]
def dK(x0:Int):Option ((List UInt8)):=
 aJ (ri.length<4294967281/\(ri.all λb=>decide (b.toNat<128))=true)<|
 aa (Lib.fields ri:(List (List UInt8))) λg=>
 aa (decide (x0<1):Bool) λE=>
 aa (decide ((g.length:Int)<x0):Bool) λz7=>
 aa (E||z7:Bool) λF=>
 if F=true then(
  some []
 )else(
  aa (IntKind.wrap .i64 (x0-1):Int) λf=>
  aJ ((0:Int)<=f/\f<(g.length:Int))<|
  aa (gel g f:List UInt8) λu=>
  some u
 )
def cv(x0:List UInt8):Option (Int × Bool):=
 aa ((λX=>
  aa ((λs4=>
   aa (decide (X.2.2=0):Bool) λz6=>
   aa (decide (X.2.1=0):Bool) λz7=>
   aa (z6||z7:Bool) λz8=>
   if z8=true then(
    some (0,false)
   )else(
    obind (dQ s4 false) λF=>
    some (F.1,F.2)
   )
   ):(Int)->Option (Int × Bool)) λJ4=>
  aa (max X.2.1 0:Int) λY=>
  aa (λ(a1:(Int × Int)->Option (Int × Bool)) (g:Int × Int)=>
   aa (decide (g.2<6):Bool) λa6=>
   if a6=true then(
    aJ ((0<=g.1/\g.1<=18446744073709551615)/\0<=(10:Int)/\(10:Int)<=18446744073709551615)<|
    aa ((g.1*(10:Int) / 18446744073709551616,g.1*(10:Int) % 18446744073709551616):Int × Int) λG=>
    aa (decide (0<G.1):Bool) λa7=>
    if a7=true then(
     some (0,false)
    )else(
     aa (IntKind.wrap .i64 (g.2+1):Int) λa8=>
     a1 (G.2,a8)
    )
   )else(
    J4 g.1
   )
   ) λad=>
  loopF ad KK (X.1,Y)
  ):(Int × Int × Int)->Option (Int × Bool)) λJ2=>
 aa (λ(H:(Int × Int × Int × Nat)->Option (Int × Bool)) (f:Int × Int × Int × Nat)=>
  aa (decide (f.2.2.2<x0.length):Bool) λaf=>
  if af=true then(
   aa ((λao=>
    aJ ((0<=f.1/\f.1<=18446744073709551615)/\0<=(10:Int)/\(10:Int)<=18446744073709551615)<|
    aa ((f.1*(10:Int) / 18446744073709551616,f.1*(10:Int) % 18446744073709551616):Int × Int) λu=>
    aa (IntKind.wrap .i32 ((rn x0 f.2.2.2)-48):Int) λb0=>
    aa (IntKind.wrap .u64 b0:Int) λE=>
    aJ (0<=u.2/\0<=E/\0<=(0:Int)/\(0:Int)<=1)<|
    aa (((u.2+E+(0:Int)) % 18446744073709551616,(u.2+E+(0:Int)) / 18446744073709551616):Int × Int) λJ=>
    aa (IntKind.wrap .u64 (u.1+J.2):Int) λb1=>
    aa (decide (0<b1):Bool) λb2=>
    if b2=true then(
     some (0,false)
    )else(
     aa (IntKind.wrap .i64 (f.2.2.1+1):Int) λb3=>
     H (J.1,ao,b3,iN x0 f.2.2.2)
    )
    ):(Int)->Option (Int × Bool)) λW=>
   aa (decide ((rn x0 f.2.2.2)=46):Bool) λb4=>
   aa (decide (f.2.1<0):Bool) λb5=>
   aa (b4&&b5:Bool) λb6=>
   if b6=true then(
    H (f.1,0,f.2.2.1,iN x0 f.2.2.2)
   )else(
    aa (decide ((rn x0 f.2.2.2)<48):Bool) λb7=>
    aa (decide (57<(rn x0 f.2.2.2)):Bool) λz54=>
    aa (b7||z54:Bool) λbb=>
    aa (decide (f.2.1=6):Bool) λz56=>
    aa (bb||z56:Bool) λbk=>
    if bk=true then(
     some (0,false)
    )else(
     aa (decide (0<=f.2.1):Bool) λbq=>
     if bq=true then(
      aa (IntKind.wrap .i64 (f.2.1+1):Int) λbs=>
      W bs
     )else(
      W f.2.1
     )
    )
   )
  )else(
   J2 (f.1,f.2.1,f.2.2.1)
  )
  ) λc6=>
 loopF c6 KK (0,(-1),0,0)
def b9(x0:V):Option (V):=
 aa ((λs6=>
  if s6=true then(
   some x0
  )else(
   aa (decide (x0.k=0):Bool) λz8=>
   if z8=true then(
    obind (bW (0:Int)) λF=>
    some F
   )else(
    aa (decide (x0.k=3):Bool) λG=>
    if G=true then(
     aa (IntKind.wrap .i64 (x0.n*1000000):Int) λH=>
     obind (bW H) λJ=>
     some J
    )else(
     aa ((Lib.trimPrefix x0.s ([45]:List UInt8),Lib.hasPrefix x0.s ([45]:List UInt8)):(List UInt8) × Bool) λg=>
     obind (cv g.1) λf=>
     aa (!f.2:Bool) λW=>
     if W=true then(
      obind (aG (2:Int)) λX=>
      some X
     )else(
      aa ((λY=>
       obind (bW Y) λa1=>
       some a1
       ):(Int)->Option (V)) λu=>
      if g.2=true then(
       aa (IntKind.wrap .i64 (-f.1):Int) λa6=>
       u a6
      )else(
       u f.1
      )
     )
    )
   )
  )
  ):(Bool)->Option (V)) λJ6=>
 aa (decide (x0.k=1):Bool) λE=>
 if E=true then(
  J6 E
 )else(
  aa (decide (x0.k=4):Bool) λa7=>
  J6 a7
 )
def bZ(x0:V):Option (V):=
 aa ((λs6=>
  if s6=true then(
   some x0
  )else(
   aa (decide (x0.k=0):Bool) λz8=>
   if z8=true then(
    obind (bu false) λg=>
    some g
   )else(
    aa (decide (x0.k=1):Bool) λu=>
    if u=true then(
     aa (!decide (x0.n=0):Bool) λE=>
     obind (bu E) λF=>
     some F
    )else(
     aa (decide (x0.s=([84,82,85,69]:List UInt8)):Bool) λG=>
     aa (decide (x0.s=([70,65,76,83,69]:List UInt8)):Bool) λz17=>
     aa (G||z17:Bool) λH=>
     if H=true then(
      aa (decide (x0.s=([84,82,85,69]:List UInt8)):Bool) λJ=>
      obind (bu J) λW=>
      some W
     )else(
      obind (aG (2:Int)) λX=>
      some X
     )
    )
   )
  )
  ):(Bool)->Option (V)) λJ6=>
 aa (decide (x0.k=3):Bool) λf=>
 if f=true then(
  J6 f
 )else(
  aa (decide (x0.k=4):Bool) λY=>
  J6 Y
 )
def ng:List UInt8:=[73,70,50,51,32,73,70,69,82,82,79,82,50,50,32,65,78,68,49,57,32,79,82,49,57,32,67,72,79,79,83,69,50,57,32,65,66,83,49,49,32,83,73,71,78,49,49,32,73,78,84,49,49,32,82,79,85,78,68,50,50,32,77,79,68,50,50,32,80,79,87,69,82,50,50,32,81,85,79,84,73,69,78,84,50,50,32,71,67,68,50,50,32,76,67,77,50,50,32,70,65,67,84,49,49,32,69,86,69,78,49,49,32,79,68,68,49,49,32,84,82,85,78,67,49,49,32,77,73,78,49,57,32,77,65,88,49,57,32,83,85,77,49,57,32,80,82,79,68,85,67,84,49,57,32,67,79,85,78,84,49,57,32,67,79,85,78,84,65,49,57,32,67,79,85,78,84,66,76,65,78,75,49,49,32,65,86,69,82,65,71,69,49,57,32,83,85,77,73,70,50,50,32,67,79,85,78,84,73,70,50,50,32,83,85,77,80,82,79,68,85,67,84,50,50,32,76,69,78,49,49,32,76,69,70,84,50,50,32,82,73,71,72,84,50,50,32,77,73,68,51,51,32,85,80,80,69,82,49,49,32,76,79,87,69,82,49,49,32,84,82,73,77,49,49,32,67,79,78,67,65,84,49,57,32,82,69,80,84,50,50,32,70,73,78,68,50,50,32,83,85,66,83,84,73,84,85,84,69,51,51,32,69,88,65,67,84,50,50,32,86,65,76,85,69,49,49,32,78,79,84,49,49,32,73,83,78,85,77,66,69,82,49,49,32,73,83,84,69,88,84,49,49,32,73,83,66,76,65,78,75,49,49,32,73,83,69,82,82,79,82,49,49,32,73,83,76,79,71,73,67,65,76,49,49,32,78,65,48,48,32,73,78,68,69,88,51,51,32,77,65,84,67,72,50,50,32,86,76,79,79,75,85,80,51,51,32,82,79,87,83,49,49,32,67,79,76,85,77,78,83,49,49]
def fT(x0 X:V):Option (Int):=
 obind (gO x0 X) λf=>
 obind (gO X x0) λg=>
 aa (!decide (f.k=g.k):Bool) λY=>
 if Y=true then(
  obind (kw f) λu=>
  obind (kw g) λE=>
  aa (IntKind.wrap .i64 (u-E):Int) λF=>
  some F
 )else(
  aa (decide (f.k=2):Bool) λG=>
  if G=true then(
   aa (Lib.compareBytes f.s g.s:Int) λH=>
   some H
  )else(
   aa (decide (f.n<g.n):Bool) λJ=>
   if J=true then(
    some (-1)
   )else(
    aa (decide (g.n<f.n):Bool) λW=>
    if W=true then(
     some 1
    )else(
     some 0
    )
   )
  )
 )
def eD(x0:List UInt8):Option (Int):=
 aa ((λs2=>
  some 0
  ):(Unit)->Option (Int)) λX=>
 aJ (ng.length<4294967281/\(ng.all λb=>decide (b.toNat<128))=true)<|
 aa (Lib.fields ng:(List (List UInt8))) λE=>
 aa (λ(Y:(Int)->Option (Int)) (u:Int)=>
  aa (decide (u<(E.length:Int)):Bool) λF=>
  if F=true then(
   aJ ((0:Int)<=u/\u<(E.length:Int))<|
   aa (gel E u:List UInt8) λf=>
   aa (IntKind.wrap .i64 ((f.length:Int)-2):Int) λg=>
   aJ ((0:Int)<=g/\g<=(f.length:Int))<|
   aa (i_ f 0 g:List UInt8) λG=>
   aa (decide (G=x0):Bool) λH=>
   if H=true then(
    aa (IntKind.wrap .i64 (u+1):Int) λJ=>
    some J
   )else(
    aa (IntKind.wrap .i64 (u+1):Int) λW=>
    Y W
   )
  )else(
   X ()
  )
  ) λB8=>
 loopF B8 KK 0
def fH(x0:Int):Option ((List UInt8)):=
 aJ (ng.length<4294967281/\(ng.all λb=>decide (b.toNat<128))=true)<|
 aa (Lib.fields ng:(List (List UInt8))) λE=>
 aa (decide (x0<1):Bool) λJ=>
 aa (decide ((E.length:Int)<x0):Bool) λz7=>
 aa (J||z7:Bool) λW=>
 if W=true then(
  some []
 )else(
  aa (IntKind.wrap .i64 (x0-1):Int) λf=>
  aJ ((0:Int)<=f/\f<(E.length:Int))<|
  aa (gel E f:List UInt8) λF=>
  aa (IntKind.wrap .i64 (x0-1):Int) λg=>
  aJ ((0:Int)<=g/\g<(E.length:Int))<|
  aa (gel E g:List UInt8) λG=>
  aa (IntKind.wrap .i64 ((G.length:Int)-2):Int) λu=>
  aJ ((0:Int)<=u/\u<=(F.length:Int))<|
  aa (i_ F 0 u:List UInt8) λH=>
  some H
 )
def cn(x0 x1:Int):Option (Bool):=
 aJ (ng.length<4294967281/\(ng.all λb=>decide (b.toNat<128))=true)<|
 aa (Lib.fields ng:(List (List UInt8))) λG=>
 aa (decide (x0<1):Bool) λz6=>
 aa (decide ((G.length:Int)<x0):Bool) λz7=>
 aa (z6||z7:Bool) λz8=>
 if z8=true then(
  some false
 )else(
  aa (IntKind.wrap .i64 (x0-1):Int) λg=>
  aJ ((0:Int)<=g/\g<(G.length:Int))<|
  aa (gel G g:List UInt8) λf=>
  aa (IntKind.wrap .i64 ((f.length:Int)-2):Int) λu=>
  aJ ((0:Int)<=u/\u<(f.length:Int))<|
  aa (bt f u:Int) λH=>
  aa (IntKind.wrap .u8 (H-48):Int) λJ=>
  aa (IntKind.wrap .i64 J:Int) λW=>
  aa (decide (W<=x1):Bool) λF=>
  aa (IntKind.wrap .i64 ((f.length:Int)-1):Int) λE=>
  aJ (F=true->(0:Int)<=E/\E<(f.length:Int))<|
  aa (bt f E:Int) λX=>
  aa (IntKind.wrap .u8 (X-48):Int) λY=>
  aa (IntKind.wrap .i64 Y:Int) λa1=>
  aa (decide (x1<=a1):Bool) λa6=>
  aa (F&&a6:Bool) λa7=>
  some a7
 )
def g_(x0:Int):Option (Int × Bool):=
 aa (decide (9223372036854<x0):Bool) λf=>
 aa (decide (x0<(-9223372036854)):Bool) λz3=>
 aa (f||z3:Bool) λg=>
 if g=true then(
  some (0,false)
 )else(
  aa (IntKind.wrap .i64 (x0*1000000):Int) λu=>
  some (u,true)
 )
def kq(x0:Int):Option (Int × Bool):=
 aa (Int.tmod x0 1000000:Int) λf=>
 aa ((λE=>
  obind (l_ x0 E) λg=>
  some (g.1,g.2)
  ):(Int)->Option (Int × Bool)) λu=>
 aa (decide (f<0):Bool) λF=>
 if F=true then(
  aa (IntKind.wrap .i64 (f+1000000):Int) λG=>
  u G
 )else(
  u f
 )
def j9(x0 u:Int):Option (Int):=
 aa ((λE=>
  some E
  ):(Int)->Option (Int)) λF=>
 aa (λ(n3:(Int × Int)->Option (Int)) (f:Int × Int)=>
  aa (!decide (f.2=0):Bool) λG=>
  if G=true then(
   aJ (f.2≠0)<|
   aa (Int.tmod f.1 f.2:Int) λg=>
   n3 (f.2,g)
  )else(
   F f.1
  )
  ) λH=>
 loopF H KK (x0,u)
def gn(x0:List (Int)):Option ((List (Int))):=
 aa ((λG=>
  some G
  ):((List (Int)))->Option ((List (Int)))) λH=>
 aa (λ(J:(Int × (List (Int)))->Option ((List (Int)))) (f:Int × (List (Int)))=>
  aa (decide (f.1<(x0.length:Int)):Bool) λW=>
  if W=true then(
   aJ ((0:Int)<=f.1/\f.1<(x0.length:Int))<|
   aa (gel x0 f.1:Int) λu=>
   aa (IntKind.wrap .i64 (Int.tdiv u 1000000):Int) λg=>
   aJ (f.2.length+[g].length<=9223372036854775807/\(f.2.length+[g].length)*8<=140737488355328)<|
   aa (f.2++[g]:List (Int)) λE=>
   aa (IntKind.wrap .i64 (f.1+1):Int) λF=>
   J (F,E)
  )else(
   H f.2
  )
  ) λX=>
 loopF X KK (0,([]:List (Int)))
def dP(x0:Int):Option (V):=
 obind (g_ x0) λf=>
 obind (bz f.1 f.2) λg=>
 some g
def jp(x0:Int) (x1:Bool):Option (V):=
 aa (IntKind.wrap .i64 (Int.tdiv x0 1000000):Int) λz2=>
 aa ((λf=>
  aa ((λg=>
   aa ((λs8=>
    aa (IntKind.wrap .i64 (f.2*s8):Int) λz9=>
    obind (dP z9) λu=>
    some u
    ):(Int)->Option (V)) λJ8=>
   aa (Int.tmod g 2:Int) λE=>
   aa (decide (E=1):Bool) λF=>
   aa (!(F == x1):Bool) λG=>
   if G=true then(
    aa (IntKind.wrap .i64 (g+1):Int) λH=>
    J8 H
   )else(
    J8 g
   )
   ):(Int)->Option (V)) λJ6=>
  aa (Int.tmod x0 1000000:Int) λJ=>
  aa (!decide (J=0):Bool) λW=>
  if W=true then(
   aa (IntKind.wrap .i64 (f.1+1):Int) λX=>
   J6 X
  )else(
   J6 f.1
  )
  ):(Int × Int)->Option (V)) λJ4=>
 aa (decide (x0<0):Bool) λY=>
 if Y=true then(
  aa (IntKind.wrap .i64 (-z2):Int) λa1=>
  J4 (a1,(-1))
 )else(
  J4 (z2,1)
 )
def iE(x0 x1:Int):Option (V):=
 aa ((λf=>
  aJ (f≠0)<|
  aa (IntKind.wrap .i64 (Int.tdiv x0 f):Int) λG=>
  aJ (f≠0)<|
  aa (Int.tmod x0 f:Int) λH=>
  aa ((λs9=>
   aa ((λu=>
    aJ (f≠0)<|
    aa (IntKind.wrap .i64 (Int.tdiv 9223372036854775807 f):Int) λJ=>
    aa (decide (J<u):Bool) λF=>
    aJ ((!F)=true->f≠0)<|
    aa (IntKind.wrap .i64 (Int.tdiv (-9223372036854775807) f):Int) λW=>
    aa (decide (u<W):Bool) λz18=>
    aa (F||z18:Bool) λX=>
    if X=true then(
     obind (aG (5:Int)) λY=>
     some Y
    )else(
     aa (IntKind.wrap .i64 (u*f):Int) λa1=>
     obind (bW a1) λa6=>
     some a6
    )
    ):(Int)->Option (V)) λE=>
   aa (IntKind.wrap .i64 (f-s9):Int) λa7=>
   aa (decide (a7<=s9):Bool) λa8=>
   if a8=true then(
    aa (decide (x0<0):Bool) λad=>
    if ad=true then(
     aa (IntKind.wrap .i64 (G-1):Int) λaf=>
     E af
    )else(
     aa (IntKind.wrap .i64 (G+1):Int) λao=>
     E ao
    )
   )else(
    E G
   )
   ):(Int)->Option (V)) λJ9=>
  aa (decide (H<0):Bool) λb0=>
  if b0=true then(
   aa (IntKind.wrap .i64 (-H):Int) λb1=>
   J9 b1
  )else(
   J9 H
  )
  ):(Int)->Option (V)) λJ3=>
 aa (IntKind.wrap .i64 (6-x1):Int) λb2=>
 aa (λ(b3:(Int × Int)->Option (V)) (g:Int × Int)=>
  aa (decide (g.2<b2):Bool) λb4=>
  if b4=true then(
   aa (IntKind.wrap .i64 (g.1*10):Int) λb5=>
   aa (IntKind.wrap .i64 (g.2+1):Int) λb6=>
   b3 (b5,b6)
  )else(
   J3 g.1
  )
  ) λb7=>
 loopF b7 KK (1,0)
def dq(x0:List (V)):Option ((List (Int))):=
 aa ((λJ=>
  some J
  ):((List (Int)))->Option ((List (Int)))) λW=>
 aa (λ(H:(Int × (List (Int)))->Option ((List (Int)))) (f:Int × (List (Int)))=>
  aa (decide (f.1<(x0.length:Int)):Bool) λX=>
  if X=true then(
   aJ ((0:Int)<=f.1/\f.1<(x0.length:Int))<|
   aa (gel x0 f.1:V) λg=>
   aa (decide (g.k=1):Bool) λu=>
   if u=true then(
    aJ (f.2.length+[g.n].length<=9223372036854775807/\(f.2.length+[g.n].length)*8<=140737488355328)<|
    aa (f.2++[g.n]:List (Int)) λE=>
    aa (IntKind.wrap .i64 (f.1+1):Int) λF=>
    H (F,E)
   )else(
    aa (IntKind.wrap .i64 (f.1+1):Int) λG=>
    H (G,f.2)
   )
  )else(
   W f.2
  )
  ) λY=>
 loopF Y KK (0,([]:List (Int)))
def gk(x0:List (V)):Option (V):=
 aa ((λJ=>
  obind (bz J.1 J.2) λX=>
  some X
  ):(Int × Bool)->Option (V)) λY=>
 obind (dq x0) λu=>
 aa (λ(W:(Int × Bool × Int)->Option (V)) (f:Int × Bool × Int)=>
  aa (decide (f.2.2<(u.length:Int)):Bool) λE=>
  if E=true then(
   aJ ((0:Int)<=f.2.2/\f.2.2<(u.length:Int))<|
   aa (gel u f.2.2:Int) λF=>
   if f.2.1=true then(
    obind (kL f.1 F) λg=>
    aa (IntKind.wrap .i64 (f.2.2+1):Int) λG=>
    W (g.1,g.2,G)
   )else(
    aa (IntKind.wrap .i64 (f.2.2+1):Int) λH=>
    W (f.1,f.2.1,H)
   )
  )else(
   Y (f.1,f.2.1)
  )
  ) λB8=>
 loopF B8 KK (0,true,0)
def fY(x0:Bool) (x1:List (V)):Option (V):=
 obind (dq x1) λu=>
 aa (decide ((u.length:Int)=0):Bool) λz5=>
 if z5=true then(
  obind (bW (0:Int)) λy7=>
  some y7
 )else(
  aJ ((0:Int)<=0/\0<(u.length:Int))<|
  aa (gel u 0:Int) λz9=>
  aa ((λF=>
   obind (bW F) λG=>
   some G
   ):(Int)->Option (V)) λH=>
  aa (λ(E:(Int × Int)->Option (V)) (f:Int × Int)=>
   aa (decide (f.2<(u.length:Int)):Bool) λJ=>
   if J=true then(
    aJ ((0:Int)<=f.2/\f.2<(u.length:Int))<|
    aa (gel u f.2:Int) λg=>
    aa (decide (f.1<g):Bool) λW=>
    aa (W == x0:Bool) λX=>
    aa (!decide (g=f.1):Bool) λY=>
    aa (X&&Y:Bool) λa1=>
    if a1=true then(
     aa (IntKind.wrap .i64 (f.2+1):Int) λa6=>
     E (g,a6)
    )else(
     aa (IntKind.wrap .i64 (f.2+1):Int) λa7=>
     E (f.1,a7)
    )
   )else(
    H f.1
   )
   ) λa8=>
  loopF a8 KK (z9,0)
 )
def eC(x0 f:V):Option (Bool):=
 aa (decide (x0.k=f.k):Bool) λg=>
 aa (decide (x0.n=f.n):Bool) λu=>
 aa (g&&u:Bool) λE=>
 aa (decide (x0.s=f.s):Bool) λF=>
 aa (E&&F:Bool) λG=>
 some G
def fj(x0:Int) (Y:Bool) (g:List (V)):Option (V):=
 aa ((λs3=>
  obind (g_ s3) λW=>
  obind (bz W.1 W.2) λy5=>
  some y5
  ):(Int)->Option (V)) λJ3=>
 aa (λ(X:(Int × Int)->Option (V)) (f:Int × Int)=>
  aa (decide (f.2<(g.length:Int)):Bool) λz9=>
  if z9=true then(
   aJ ((0:Int)<=f.2/\f.2<(g.length:Int))<|
   aa (gel g f.2:V) λu=>
   aa (decide (u.k=x0):Bool) λE=>
   aa (E == Y:Bool) λF=>
   if F=true then(
    aa (IntKind.wrap .i64 (f.1+1):Int) λG=>
    aa (IntKind.wrap .i64 (f.2+1):Int) λH=>
    X (G,H)
   )else(
    aa (IntKind.wrap .i64 (f.2+1):Int) λJ=>
    X (f.1,J)
   )
  )else(
   J3 f.1
  )
  ) λB7=>
 loopF B7 KK (0,0)
def fZ(x0:V) (g:List (V)):Option (V):=
 aa ((λY=>
  obind (g_ Y) λW=>
  obind (bz W.1 W.2) λy6=>
  some y6
  ):(Int)->Option (V)) λJ4=>
 aa (λ(X:(Int × Int)->Option (V)) (f:Int × Int)=>
  aa (decide (f.2<(g.length:Int)):Bool) λu=>
  if u=true then(
   aJ ((0:Int)<=f.2/\f.2<(g.length:Int))<|
   aa (gel g f.2:V) λE=>
   obind (eC E x0) λF=>
   if F=true then(
    aa (IntKind.wrap .i64 (f.1+1):Int) λG=>
    aa (IntKind.wrap .i64 (f.2+1):Int) λH=>
    X (G,H)
   )else(
    aa (IntKind.wrap .i64 (f.2+1):Int) λJ=>
    X (f.1,J)
   )
  )else(
   J4 f.1
  )
  ) λB8=>
 loopF B8 KK (0,0)
def iq(x0:V) (u:List (V)):Option (V):=
 aa ((λX=>
  obind (gk X) λY=>
  some Y
  ):((List (V)))->Option (V)) λJ4=>
 aa (λ(W:(Int × (List (V)))->Option (V)) (f:Int × (List (V)))=>
  aa (decide (f.1<(u.length:Int)):Bool) λE=>
  if E=true then(
   aJ ((0:Int)<=f.1/\f.1<(u.length:Int))<|
   aa (gel u f.1:V) λg=>
   obind (eC g x0) λF=>
   if F=true then(
    aJ (f.2.length+[g].length<=9223372036854775807/\(f.2.length+[g].length)*32<=140737488355328)<|
    aa (f.2++[g]:List (V)) λG=>
    aa (IntKind.wrap .i64 (f.1+1):Int) λH=>
    W (H,G)
   )else(
    aa (IntKind.wrap .i64 (f.1+1):Int) λJ=>
    W (J,f.2)
   )
  )else(
   J4 f.2
  )
  ) λB8=>
 loopF B8 KK (0,([]:List (V)))
def iu(x0:V) (u:List (V)):Option (V):=
 aa ((λs4=>
  obind (aG (6:Int)) λW=>
  some W
  ):(Int × Int × (List UInt8))->Option (V)) λX=>
 aa (λ(Y:(Int × Int × Int × (List UInt8))->Option (V)) (f:Int × Int × Int × (List UInt8))=>
  aa (decide (f.1<(u.length:Int)):Bool) λz9=>
  if z9=true then(
   aJ ((0:Int)<=f.1/\f.1<(u.length:Int))<|
   aa (gel u f.1:V) λE=>
   obind (eC E x0) λF=>
   if F=true then(
    aa (IntKind.wrap .i64 (f.1+1):Int) λG=>
    obind (g_ G) λg=>
    obind (bz g.1 g.2) λH=>
    some H
   )else(
    aa (IntKind.wrap .i64 (f.1+1):Int) λJ=>
    Y (J,f.2.1,f.2.2.1,f.2.2.2)
   )
  )else(
   X (f.2.1,f.2.2.1,f.2.2.2)
  )
  ) λB7=>
 loopF B7 KK (0,0,0,[])
def iG(x0 g u:Int) (E:List (V)):Option (V):=
 aa (decide (x0<1):Bool) λz3=>
 aa (decide (g<1):Bool) λz4=>
 aa (z3||z4:Bool) λz5=>
 aa (decide (u<1):Bool) λz6=>
 aa (z5||z6:Bool) λz7=>
 aa (decide (x0<u):Bool) λz8=>
 aa (z7||z8:Bool) λz9=>
 aJ ((!z9)=true->x0≠0)<|
 aa (IntKind.wrap .i64 (Int.tdiv (E.length:Int) x0):Int) λF=>
 aa (decide (F<g):Bool) λz12=>
 aa (z9||z12:Bool) λG=>
 if G=true then(
  obind (aG (3:Int)) λH=>
  some H
 )else(
  aa (IntKind.wrap .i64 (g-1):Int) λJ=>
  aa (IntKind.wrap .i64 (J*x0):Int) λW=>
  aa (IntKind.wrap .i64 (u-1):Int) λX=>
  aa (IntKind.wrap .i64 (W+X):Int) λf=>
  aJ ((0:Int)<=f/\f<(E.length:Int))<|
  aa (gel E f:V) λY=>
  some Y
 )
def fO(x0:V) (E F:Int) (u:List (V)):Option (V):=
 aa (decide (E<1):Bool) λz4=>
 aa (decide (F<1):Bool) λz5=>
 aa (z4||z5:Bool) λz6=>
 aa (decide (E<F):Bool) λz7=>
 aa (z6||z7:Bool) λz8=>
 if z8=true then(
  obind (aG (3:Int)) λG=>
  some G
 )else(
  aa ((λao=>
   obind (aG (6:Int)) λH=>
   some H
   ):(Int × Int × (List UInt8))->Option (V)) λJ=>
  aa (λ(W:(Int × Int × Int × (List UInt8))->Option (V)) (f:Int × Int × Int × (List UInt8))=>
   aa (IntKind.wrap .i64 (f.1+E):Int) λX=>
   aa (decide (X<=(u.length:Int)):Bool) λY=>
   if Y=true then(
    aJ ((0:Int)<=f.1/\f.1<(u.length:Int))<|
    aa (gel u f.1:V) λa1=>
    obind (eC a1 x0) λa6=>
    if a6=true then(
     aa (IntKind.wrap .i64 (f.1+F):Int) λa7=>
     aa (IntKind.wrap .i64 (a7-1):Int) λg=>
     aJ ((0:Int)<=g/\g<(u.length:Int))<|
     aa (gel u g:V) λa8=>
     some a8
    )else(
     aa (IntKind.wrap .i64 (f.1+E):Int) λad=>
     W (ad,f.2.1,f.2.2.1,f.2.2.2)
    )
   )else(
    J (f.2.1,f.2.2.1,f.2.2.2)
   )
   ) λaf=>
  loopF af KK (0,0,0,[])
 )
def fR(x0:List UInt8):Option ((List UInt8)):=
 aa ((λs2=>
  some s2
  ):((List UInt8))->Option ((List UInt8))) λJ2=>
 aa (λ(n4:((List UInt8) × Bool × Int)->Option ((List UInt8))) (f:(List UInt8) × Bool × Int)=>
  aa (decide (f.2.2<(x0.length:Int)):Bool) λz6=>
  if z6=true then(
   aJ ((0:Int)<=f.2.2/\f.2.2<(x0.length:Int))<|
   aa (bt x0 f.2.2:Int) λG=>
   aa (decide (G=32):Bool) λH=>
   if H=true then(
    aa (!decide (f.1=[]):Bool) λJ=>
    aa (IntKind.wrap .i64 (f.2.2+1):Int) λW=>
    n4 (f.1,J,W)
   )else(
    aa ((λu=>
     aa (IntKind.wrap .i64 (f.2.2+1):Int) λg=>
     aJ ((0:Int)<=f.2.2/\f.2.2<=g/\g<=(x0.length:Int))<|
     aa (i_ x0 f.2.2 g:List UInt8) λE=>
     aJ (u.length+E.length<=9223372036854775807)<|
     aa (u++E:List UInt8) λX=>
     aa (IntKind.wrap .i64 (f.2.2+1):Int) λY=>
     n4 (X,false,Y)
     ):((List UInt8))->Option ((List UInt8))) λF=>
    if f.2.1=true then(
     aJ (f.1.length+([32]:List UInt8).length<=9223372036854775807)<|
     aa (f.1++([32]:List UInt8):List UInt8) λa1=>
     F a1
    )else(
     F f.1
    )
   )
  )else(
   J2 f.1
  )
  ) λB4=>
 loopF B4 KK ([],false,0)
def iz(x0:List UInt8):Option (Int):=
 aa ((λu=>
  some u
  ):(Int)->Option (Int)) λE=>
 aa (λ(F:(Int × Nat)->Option (Int)) (f:Int × Nat)=>
  aa (decide (f.2<x0.length):Bool) λG=>
  if G=true then(
   aa (IntKind.wrap .i64 (f.1+1):Int) λg=>
   F (g,iN x0 f.2)
  )else(
   E f.1
  )
  ) λH=>
 loopF H KK (0,0)
def ip(x0:Int) (g:List UInt8):Option (Int × Bool):=
 aa (IntKind.wrap .i64 (Int.tdiv x0 1000000):Int) λf=>
 aa (max f 0:Int) λu=>
 aa (min u (g.length:Int):Int) λE=>
 aa (decide (0<=f):Bool) λF=>
 some (E,F)
def jf(x0 x1 F:Int):Option (Int × Int):=
 aa ((λs2=>
  aa ((λs4=>
   aa (decide (x0=0):Bool) λz6=>
   if z6=true then(
    aJ (F≠0)<|
    aa (IntKind.wrap .u64 (Int.tdiv x1 F):Int) λz9=>
    aJ (F≠0)<|
    aa (Int.tmod x1 F:Int) λb5=>
    some (z9,b5)
   )else(
    aJ (0<=F/\F<=18446744073709551615)<|
    aa (64-(Lib.bitLen (Int.toNat F):Int):Int) λb6=>
    aa (IntKind.wrap .u64 b6:Int) λf=>
    aJ ((0:Int)<=f)<|
    aa (vq .u64 F f:Int) λG=>
    aJ ((0:Int)<=32)<|
    aa (qQ .u64 G 32:Int) λg=>
    aa (bits .and .u64 G 4294967295:Int) λW=>
    aJ ((0:Int)<=f)<|
    aa (vq .u64 x0 f:Int) λb7=>
    aa (IntKind.wrap .u64 (64-f):Int) λX=>
    aJ ((0:Int)<=X)<|
    aa (qQ .u64 x1 X:Int) λbb=>
    aa (bits .or .u64 b7 bb:Int) λH=>
    aJ ((0:Int)<=f)<|
    aa (vq .u64 x1 f:Int) λY=>
    aJ ((0:Int)<=32)<|
    aa (qQ .u64 Y 32:Int) λa1=>
    aa (bits .and .u64 Y 4294967295:Int) λa6=>
    aJ (g≠0)<|
    aa (IntKind.wrap .u64 (Int.tdiv H g):Int) λa7=>
    aa (IntKind.wrap .u64 (a7*g):Int) λbk=>
    aa (IntKind.wrap .u64 (H-bk):Int) λbq=>
    aa ((λa8=>
     aa (IntKind.wrap .u64 (H*4294967296):Int) λbs=>
     aa (IntKind.wrap .u64 (bs+a1):Int) λc6=>
     aa (IntKind.wrap .u64 (a8*G):Int) λc7=>
     aa (IntKind.wrap .u64 (c6-c7):Int) λJ=>
     aJ (g≠0)<|
     aa (IntKind.wrap .u64 (Int.tdiv J g):Int) λad=>
     aa (IntKind.wrap .u64 (ad*g):Int) λc8=>
     aa (IntKind.wrap .u64 (J-c8):Int) λcc=>
     aa ((λaf=>
      aa (IntKind.wrap .u64 (a8*4294967296):Int) λch=>
      aa (IntKind.wrap .u64 (ch+af):Int) λcp=>
      aa (IntKind.wrap .u64 (J*4294967296):Int) λct=>
      aa (IntKind.wrap .u64 (ct+a6):Int) λcx=>
      aa (IntKind.wrap .u64 (af*G):Int) λcy=>
      aa (IntKind.wrap .u64 (cx-cy):Int) λda=>
      aJ ((0:Int)<=f)<|
      aa (qQ .u64 da f:Int) λdd=>
      some (cp,dd)
      ):(Int)->Option (Int × Int)) λao=>
     aa (λ(dj:(Int × Int)->Option (Int × Int)) (u:Int × Int)=>
      aa (decide (4294967296<=u.2):Bool) λdn=>
      aa (IntKind.wrap .u64 (u.2*W):Int) λdv=>
      aa (IntKind.wrap .u64 (4294967296*u.1):Int) λdz=>
      aa (IntKind.wrap .u64 (dz+a6):Int) λe0=>
      aa (decide (e0<dv):Bool) λz63=>
      aa (dn||z63:Bool) λe1=>
      if e1=true then(
       aa (IntKind.wrap .u64 (u.2-1):Int) λb0=>
       aa (IntKind.wrap .u64 (u.1+g):Int) λb1=>
       aa (decide (4294967296<=b1):Bool) λe2=>
       if e2=true then(
        ao b0
       )else(
        dj (b1,b0)
       )
      )else(
       ao u.2
      )
      ) λe3=>
     loopF e3 KK (cc,ad)
     ):(Int)->Option (Int × Int)) λb2=>
    aa (λ(e4:(Int × Int)->Option (Int × Int)) (E:Int × Int)=>
     aa (decide (4294967296<=E.1):Bool) λe5=>
     aa (IntKind.wrap .u64 (E.1*W):Int) λe6=>
     aa (IntKind.wrap .u64 (4294967296*E.2):Int) λe7=>
     aa (IntKind.wrap .u64 (e7+a1):Int) λe8=>
     aa (decide (e8<e6):Bool) λz78=>
     aa (e5||z78:Bool) λe9=>
     if e9=true then(
      aa (IntKind.wrap .u64 (E.1-1):Int) λb3=>
      aa (IntKind.wrap .u64 (E.2+g):Int) λb4=>
      aa (decide (4294967296<=b4):Bool) λea=>
      if ea=true then(
       b2 b3
      )else(
       e4 (b3,b4)
      )
     )else(
      b2 E.1
     )
     ) λeb=>
    loopF eb KK (a7,bq)
   )
   ):(Unit)->Option (Int × Int)) λJ4=>
  aa (decide (F<=x0):Bool) λec=>
  if ec=true then(
   none
  )else(
   J4 ()
  )
  ):(Unit)->Option (Int × Int)) λJ2=>
 aa (decide (F=0):Bool) λed=>
 if ed=true then(
  none
 )else(
  J2 ()
 )
def gZ(x0 g u:Int):Option (Int × Bool):=
 aJ ((0<=x0/\x0<=18446744073709551615)/\0<=g/\g<=18446744073709551615)<|
 aa ((x0*g / 18446744073709551616,x0*g % 18446744073709551616):Int × Int) λE=>
 aa (decide (u<=E.1):Bool) λz5=>
 if z5=true then(
  some (0,false)
 )else(
  obind (jf E.1 E.2 u) λf=>
  aa ((λY=>
   aa (!decide (Y=0):Bool) λF=>
   aa (IntKind.wrap .u64 (u-f.2):Int) λG=>
   aa (decide (f.2<G):Bool) λz12=>
   aa (F||z12:Bool) λH=>
   some (Y,H)
   ):(Int)->Option (Int × Bool)) λJ9=>
  aa (IntKind.wrap .u64 (u-f.2):Int) λJ=>
  aa (decide (J<=f.2):Bool) λW=>
  if W=true then(
   aa (IntKind.wrap .u64 (f.1+1):Int) λX=>
   J9 X
  )else(
   J9 f.1
  )
 )
def kB(x0 g:Int):Option (Int × Bool):=
 obind (f_ x0) λy1=>
 obind (f_ g) λE=>
 obind (gZ y1 E (1000000:Int)) λu=>
 aa (!u.2:Bool) λF=>
 if F=true then(
  some (0,false)
 )else(
  aa (decide (x0<0):Bool) λG=>
  aa (decide (g<0):Bool) λH=>
  aa (!(G == H):Bool) λJ=>
  obind (dQ u.1 J) λf=>
  some (f.1,f.2)
 )
def kF(x0 g:Int):Option (Int × Bool):=
 aa (decide (g=0):Bool) λH=>
 if H=true then(
  some (0,false)
 )else(
  obind (f_ x0) λJ=>
  obind (f_ g) λW=>
  obind (gZ J (1000000:Int) W) λG=>
  aa (!G.2:Bool) λX=>
  if X=true then(
   some (0,false)
  )else(
   aa (decide (x0<0):Bool) λu=>
   aa (decide (g<0):Bool) λE=>
   aa (!(u == E):Bool) λF=>
   obind (dQ G.1 F) λf=>
   some (f.1,f.2)
  )
 )
def cM(x0:Int):Option ((List UInt8)):=
 obind (f_ x0) λy1=>
 aa ((λs4=>
  aa ((λs7=>
   aa ((λJ=>
    aJ (bS J=true)<|
    aa (qv J:List UInt8) λa1=>
    some a1
    ):((List (Int)))->Option ((List UInt8))) λa6=>
   aa (IntKind.wrap .i64 ((s7.length:Int)-1):Int) λa7=>
   aa (λ(a8:(Int × Int × (List (Int)))->Option ((List UInt8))) (f:Int × Int × (List (Int)))=>
    aa (decide (f.1<f.2.1):Bool) λad=>
    if ad=true then(
     aJ ((0:Int)<=f.1/\f.1<(f.2.2.length:Int))<|
     aJ ((0:Int)<=f.2.1/\f.2.1<(f.2.2.length:Int))<|
     aa ((f.2.2.set (Int.toNat f.1) (gel f.2.2 f.2.1)).set (Int.toNat f.2.1) (gel f.2.2 f.1):List Int) λE=>
     aa (IntKind.wrap .i64 (f.1+1):Int) λaf=>
     aa (IntKind.wrap .i64 (f.2.1-1):Int) λao=>
     a8 (af,ao,E)
    )else(
     a6 f.2.2
    )
    ) λb0=>
   loopF b0 KK (0,a7,s7)
   ):((List (Int)))->Option ((List UInt8))) λJ7=>
  aa (decide (x0<0):Bool) λb1=>
  if b1=true then(
   aJ (s4.length+[45].length<=9223372036854775807/\(s4.length+[45].length)*1<=140737488355328)<|
   aa (s4++[45]:List (Int)) λb2=>
   J7 b2
  )else(
   J7 s4
  )
  ):((List (Int)))->Option ((List UInt8))) λJ4=>
 aa (λ(b3:(Int × Bool × Int × (List (Int)))->Option ((List UInt8))) (g:Int × Bool × Int × (List (Int)))=>
  aa (decide (g.2.2.1<7):Bool) λb4=>
  aa (decide (0<g.1):Bool) λz42=>
  aa (b4||z42:Bool) λb5=>
  if b5=true then(
   aa ((λF=>
    aa (IntKind.wrap .i64 (g.2.2.1+1):Int) λb6=>
    b3 (F.1,F.2.1,b6,F.2.2)
    ):(Int × Bool × (List (Int)))->Option ((List UInt8))) λW=>
   aa ((λu=>
    aa (Int.tmod g.1 10:Int) λb7=>
    aa (IntKind.wrap .u8 b7:Int) λX=>
    aa (IntKind.wrap .u64 (Int.tdiv g.1 10):Int) λY=>
    aa (decide (X=0):Bool) λbb=>
    aa (u.1&&bb:Bool) λbk=>
    if bk=true then(
     W (Y,u.1,u.2)
    )else(
     aa (IntKind.wrap .u8 (48+X):Int) λG=>
     aJ (u.2.length+[G].length<=9223372036854775807/\(u.2.length+[G].length)*1<=140737488355328)<|
     aa (u.2++[G]:List (Int)) λbq=>
     W (Y,false,bq)
    )
    ):(Bool × (List (Int)))->Option ((List UInt8))) λH=>
   aa (decide (g.2.2.1=6):Bool) λbs=>
   if bs=true then(
    aa (!g.2.1:Bool) λc6=>
    if c6=true then(
     aJ (g.2.2.2.length+[46].length<=9223372036854775807/\(g.2.2.2.length+[46].length)*1<=140737488355328)<|
     aa (g.2.2.2++[46]:List (Int)) λc7=>
     H (false,c7)
    )else(
     H (false,g.2.2.2)
    )
   )else(
    H (g.2.1,g.2.2.2)
   )
  )else(
   J4 g.2.2.2
  )
  ) λc8=>
 loopF c8 KK (y1,true,0,[])
def dy(x0:V):Option ((List UInt8)):=
 aa (decide (x0.k=1):Bool) λE=>
 if E=true then(
  obind (cM x0.n) λF=>
  some F
 )else(
  aa (decide (x0.k=2):Bool) λG=>
  if G=true then(
   some x0.s
  )else(
   aa (decide (x0.k=3):Bool) λH=>
   if H=true then(
    aa (decide (x0.n=1):Bool) λf=>
    if f=true then(
     some ([84,82,85,69]:List UInt8)
    )else(
     some ([70,65,76,83,69]:List UInt8)
    )
   )else(
    aa (decide (x0.k=4):Bool) λg=>
    if g=true then(
     obind (dK x0.n) λu=>
     some u
    )else(
     some []
    )
   )
  )
 )
def gE(x0:V):Option (V):=
 aa (decide (x0.k=4):Bool) λf=>
 if f=true then(
  some x0
 )else(
  obind (dy x0) λg=>
  obind (bw g) λu=>
  some u
 )
def iA(x0 J:Int):Option (V):=
 obind (g_ (1:Int)) λF=>
 aa ((λG=>
  obind (bz G.1 G.2) λW=>
  some W
  ):(Int × Bool)->Option (V)) λX=>
 aa (λ(H:(Int × Bool × Int)->Option (V)) (f:Int × Bool × Int)=>
  aa (decide (f.2.2<J):Bool) λY=>
  if Y=true then(
   if f.2.1=true then(
    obind (kB f.1 x0) λg=>
    aa (IntKind.wrap .i64 (f.2.2+1):Int) λu=>
    H (g.1,g.2,u)
   )else(
    aa (IntKind.wrap .i64 (f.2.2+1):Int) λE=>
    H (f.1,f.2.1,E)
   )
  )else(
   X (f.1,f.2.1)
  )
  ) λB7=>
 loopF B7 KK (F.1,F.2,0)
def dO(x0:List (V)):Option (V):=
 obind (dq x0) λg=>
 aa (decide ((g.length:Int)=0):Bool) λz5=>
 if z5=true then(
  obind (bW (0:Int)) λy7=>
  some y7
 )else(
  aJ ((0:Int)<=0/\0<(g.length:Int))<|
  aa (gel g 0:Int) λz9=>
  aa ((λE=>
   obind (bz E.1 E.2) λH=>
   some H
   ):(Int × Bool)->Option (V)) λJ=>
  aJ ((0:Int)<=(1:Int)/\(1:Int)<=(g.length:Int)/\(g.length:Int)<=(g.length:Int))<|
  aa (fd g (1:Int) (g.length:Int):List (Int)) λu=>
  aa (λ(F:(Int × Bool × Int)->Option (V)) (f:Int × Bool × Int)=>
   aa (decide (f.2.2<(u.length:Int)):Bool) λW=>
   if W=true then(
    aJ ((0:Int)<=f.2.2/\f.2.2<(u.length:Int))<|
    aa (gel u f.2.2:Int) λX=>
    if f.2.1=true then(
     obind (kB f.1 X) λG=>
     aa (IntKind.wrap .i64 (f.2.2+1):Int) λY=>
     F (G.1,G.2,Y)
    )else(
     aa (IntKind.wrap .i64 (f.2.2+1):Int) λa1=>
     F (f.1,f.2.1,a1)
    )
   )else(
    J (f.1,f.2.1)
   )
   ) λa6=>
  loopF a6 KK (z9,true,0)
 )
def fU(x0:List (V)):Option (V):=
 obind (gk x0) λg=>
 obind (dq x0) λG=>
 aa (decide ((G.length:Int)=0):Bool) λH=>
 if H=true then(
  obind (aG (1:Int)) λJ=>
  some J
 )else(
  aa (decide (g.k=4):Bool) λu=>
  if u=true then(
   some g
  )else(
   aa (IntKind.wrap .i64 ((G.length:Int)*1000000):Int) λE=>
   obind (kF g.n E) λf=>
   obind (bz f.1 f.2) λF=>
   some F
  )
 )
def kb(x0:List UInt8) (g:Int):Option (V):=
 aa ((λs3=>
  obind (aG (2:Int)) λy4=>
  some y4
  ):(Int × Int × (List UInt8))->Option (V)) λJ3=>
 aa (decide (x0=([65,66,83]:List UInt8)):Bool) λz6=>
 if z6=true then(
  aa (IntKind.wrap .i64 (-g):Int) λz8=>
  aa (max g z8:Int) λz9=>
  obind (bW z9) λJ=>
  some J
 )else(
  aa (decide (x0=([83,73,71,78]:List UInt8)):Bool) λW=>
  if W=true then(
   aa (max g (-1):Int) λX=>
   aa (min X 1:Int) λY=>
   obind (dP Y) λa1=>
   some a1
  )else(
   aa (decide (x0=([73,78,84]:List UInt8)):Bool) λa6=>
   if a6=true then(
    obind (kq g) λE=>
    obind (bz E.1 E.2) λa7=>
    some a7
   )else(
    aa (decide (x0=([84,82,85,78,67]:List UInt8)):Bool) λa8=>
    if a8=true then(
     aa (Int.tmod g 1000000:Int) λad=>
     aa (IntKind.wrap .i64 (g-ad):Int) λaf=>
     obind (bW af) λao=>
     some ao
    )else(
     aa ((λb0=>
      if b0=true then(
       aa (decide (x0=([79,68,68]:List UInt8)):Bool) λb1=>
       obind (jp g b1) λb2=>
       some b2
      )else(
       aa (decide (x0=([70,65,67,84]:List UInt8)):Bool) λb3=>
       if b3=true then(
        obind (gn [g]) λF=>
        aJ ((0:Int)<=0/\0<(F.length:Int))<|
        aa (gel F 0:Int) λu=>
        aa (decide (u<0):Bool) λb4=>
        aa (decide (20<u):Bool) λz39=>
        aa (b4||z39:Bool) λb5=>
        if b5=true then(
         obind (aG (5:Int)) λb6=>
         some b6
        )else(
         aa ((λb7=>
          obind (dP b7) λbb=>
          some bb
          ):(Int)->Option (V)) λbk=>
         aa (λ(bq:(Int × Int)->Option (V)) (f:Int × Int)=>
          aa (decide (f.2<=u):Bool) λbs=>
          if bs=true then(
           aa (IntKind.wrap .i64 (f.1*f.2):Int) λc6=>
           aa (IntKind.wrap .i64 (f.2+1):Int) λc7=>
           bq (c6,c7)
          )else(
           bk f.1
          )
          ) λc8=>
         loopF c8 KK (1,2)
        )
       )else(
        J3 (0,0,[])
       )
      )
      ):(Bool)->Option (V)) λG=>
     aa (decide (x0=([69,86,69,78]:List UInt8)):Bool) λH=>
     if H=true then(
      G H
     )else(
      aa (decide (x0=([79,68,68]:List UInt8)):Bool) λcc=>
      G cc
     )
    )
   )
  )
 )
def kd(x0:List UInt8) (J g:Int):Option (V):=
 obind (gn [J,g]) λf=>
 aa (decide (x0=([82,79,85,78,68]:List UInt8)):Bool) λz7=>
 if z7=true then(
  aJ ((0:Int)<=1/\1<(f.length:Int))<|
  aa (gel f 1:Int) λb6=>
  aa (decide (b6<(-6)):Bool) λW=>
  aJ ((!W)=true->(0:Int)<=1/\1<(f.length:Int))<|
  aa (gel f 1:Int) λb7=>
  aa (decide (6<b7):Bool) λz15=>
  aa (W||z15:Bool) λbb=>
  if bb=true then(
   obind (aG (5:Int)) λbk=>
   some bk
  )else(
   aJ ((0:Int)<=1/\1<(f.length:Int))<|
   aa (gel f 1:Int) λbq=>
   obind (iE J bq) λbs=>
   some bs
  )
 )else(
  aa (decide (x0=([77,79,68]:List UInt8)):Bool) λc6=>
  if c6=true then(
   aa (decide (g=0):Bool) λc7=>
   if c7=true then(
    obind (aG (1:Int)) λc8=>
    some c8
   )else(
    aJ (g≠0)<|
    aa (Int.tmod J g:Int) λu=>
    aa ((λcc=>
     obind (bW cc) λch=>
     some ch
     ):(Int)->Option (V)) λX=>
    aa (!decide (u=0):Bool) λcp=>
    aa (decide (u<0):Bool) λct=>
    aa (decide (g<0):Bool) λcx=>
    aa (!(ct == cx):Bool) λcy=>
    aa (cp&&cy:Bool) λda=>
    if da=true then(
     aa (IntKind.wrap .i64 (u+g):Int) λdd=>
     X dd
    )else(
     X u
    )
   )
  )else(
   aa (decide (x0=([80,79,87,69,82]:List UInt8)):Bool) λdj=>
   if dj=true then(
    aa (Int.tmod g 1000000:Int) λdn=>
    aa (!decide (dn=0):Bool) λY=>
    aJ ((!Y)=true->(0:Int)<=1/\1<(f.length:Int))<|
    aa (gel f 1:Int) λdv=>
    aa (decide (dv<0):Bool) λz47=>
    aa (Y||z47:Bool) λa1=>
    aJ ((!a1)=true->(0:Int)<=1/\1<(f.length:Int))<|
    aa (gel f 1:Int) λdz=>
    aa (decide (64<dz):Bool) λz51=>
    aa (a1||z51:Bool) λe0=>
    if e0=true then(
     obind (aG (5:Int)) λe1=>
     some e1
    )else(
     aJ ((0:Int)<=1/\1<(f.length:Int))<|
     aa (gel f 1:Int) λe2=>
     obind (iA J e2) λe3=>
     some e3
    )
   )else(
    aa (decide (x0=([81,85,79,84,73,69,78,84]:List UInt8)):Bool) λe4=>
    if e4=true then(
     aa (decide (g=0):Bool) λe5=>
     if e5=true then(
      obind (aG (1:Int)) λe6=>
      some e6
     )else(
      aJ (g≠0)<|
      aa (IntKind.wrap .i64 (Int.tdiv J g):Int) λe7=>
      obind (dP e7) λe8=>
      some e8
     )
    )else(
     aa ((λe9=>
      if e9=true then(
       aJ ((0:Int)<=0/\0<(f.length:Int))<|
       aa (gel f 0:Int) λea=>
       aa (decide (ea<0):Bool) λa6=>
       aJ ((!a6)=true->(0:Int)<=1/\1<(f.length:Int))<|
       aa (gel f 1:Int) λeb=>
       aa (decide (eb<0):Bool) λz76=>
       aa (a6||z76:Bool) λec=>
       if ec=true then(
        obind (aG (5:Int)) λed=>
        some ed
       )else(
        aJ ((0:Int)<=0/\0<(f.length:Int))<|
        aa (gel f 0:Int) λef=>
        aJ ((0:Int)<=1/\1<(f.length:Int))<|
        aa (gel f 1:Int) λei=>
        obind (j9 ef ei) λE=>
        aa (decide (x0=([71,67,68]:List UInt8)):Bool) λej=>
        aa (decide (E=0):Bool) λz87=>
        aa (ej||z87:Bool) λel=>
        if el=true then(
         obind (dP E) λeo=>
         some eo
        )else(
         aJ ((0:Int)<=0/\0<(f.length:Int))<|
         aa (gel f 0:Int) λep=>
         aJ (E≠0)<|
         aa (IntKind.wrap .i64 (Int.tdiv ep E):Int) λa7=>
         aJ ((0:Int)<=1/\1<(f.length:Int))<|
         aa (gel f 1:Int) λer=>
         aa (!decide (er=0):Bool) λH=>
         aJ (H=true->(0:Int)<=1/\1<(f.length:Int))<|
         aa (gel f 1:Int) λF=>
         aJ (H=true->F≠0)<|
         aa (IntKind.wrap .i64 (Int.tdiv 9223372036854 F):Int) λa8=>
         aa (decide (a8<a7):Bool) λad=>
         aa (H&&ad:Bool) λaf=>
         if af=true then(
          obind (aG (5:Int)) λao=>
          some ao
         )else(
          aJ ((0:Int)<=1/\1<(f.length:Int))<|
          aa (gel f 1:Int) λb0=>
          aa (IntKind.wrap .i64 (a7*b0):Int) λb1=>
          obind (dP b1) λb2=>
          some b2
         )
        )
       )
      )else(
       obind (aG (2:Int)) λb3=>
       some b3
      )
      ):(Bool)->Option (V)) λb4=>
     aa (decide (x0=([71,67,68]:List UInt8)):Bool) λG=>
     if G=true then(
      b4 G
     )else(
      aa (decide (x0=([76,67,77]:List UInt8)):Bool) λb5=>
      b4 b5
     )
    )
   )
  )
 )
def fJ(x0:List UInt8) (E x2:Int):Option ((List UInt8)):=
 aa (zc x0:List Int) λz2=>
 aa ((λs4=>
  aJ (bS s4=true)<|
  aa (qv s4:List UInt8) λz6=>
  some z6
  ):((List Int))->Option ((List UInt8))) λJ4=>
 aa (λ(n8:(Int × (List Int))->Option ((List UInt8))) (f:Int × (List Int))=>
  aa (decide (f.1<(z2.length:Int)):Bool) λF=>
  if F=true then(
   aJ ((0:Int)<=f.1/\f.1<(f.2.length:Int))<|
   aa (gel f.2 f.1:Int) λu=>
   aa (decide (E<=u):Bool) λG=>
   aa (IntKind.wrap .u8 (E+25):Int) λH=>
   aa (decide (u<=H):Bool) λJ=>
   aa (G&&J:Bool) λW=>
   if W=true then(
    aa (IntKind.wrap .u8 (u-E):Int) λX=>
    aa (IntKind.wrap .u8 (X+x2):Int) λY=>
    aJ ((0:Int)<=f.1/\f.1<(f.2.length:Int))<|
    aa (f.2.set (Int.toNat f.1) Y:List Int) λg=>
    aa (IntKind.wrap .i64 (f.1+1):Int) λa1=>
    n8 (a1,g)
   )else(
    aa (IntKind.wrap .i64 (f.1+1):Int) λa6=>
    n8 (a6,f.2)
   )
  )else(
   J4 f.2
  )
  ) λB8=>
 loopF B8 KK (0,z2)
def kp(x0 f:List UInt8):Option (V):=
 aa (decide (x0=([76,69,78]:List UInt8)):Bool) λz4=>
 if z4=true then(
  obind (iz f) λy6=>
  obind (g_ y6) λy7=>
  obind (bz y7.1 y7.2) λy8=>
  some y8
 )else(
  aa (decide (x0=([85,80,80,69,82]:List UInt8)):Bool) λz9=>
  if z9=true then(
   obind (fJ f (97:Int) (65:Int)) λg=>
   obind (bw g) λu=>
   some u
  )else(
   aa (decide (x0=([76,79,87,69,82]:List UInt8)):Bool) λE=>
   if E=true then(
    obind (fJ f (65:Int) (97:Int)) λF=>
    obind (bw F) λG=>
    some G
   )else(
    aa (decide (x0=([84,82,73,77]:List UInt8)):Bool) λH=>
    if H=true then(
     obind (fR f) λJ=>
     obind (bw J) λW=>
     some W
    )else(
     aa (decide (x0=([86,65,76,85,69]:List UInt8)):Bool) λX=>
     if X=true then(
      obind (b9 (⟨2,0,f⟩:V)) λY=>
      some Y
     )else(
      obind (aG (2:Int)) λa1=>
      some a1
     )
    )
   )
  )
 )
def jn(x0 f:List UInt8) (E:List (Int)):Option (V):=
 aa (decide ((E.length:Int)=0):Bool) λz3=>
 if z3=true then(
  obind (aG (2:Int)) λy5=>
  some y5
 )else(
  aa (IntKind.wrap .i64 ((E.length:Int)-1):Int) λX=>
  aJ ((0:Int)<=X/\X<(E.length:Int))<|
  aa (gel E X:Int) λz8=>
  obind (ip z8 f) λH=>
  aa (!H.2:Bool) λY=>
  if Y=true then(
   obind (aG (2:Int)) λa1=>
   some a1
  )else(
   aa (decide (x0=([76,69,70,84]:List UInt8)):Bool) λa6=>
   if a6=true then(
    aJ ((0:Int)<=H.1/\H.1<=(f.length:Int))<|
    aa (i_ f 0 H.1:List UInt8) λa7=>
    obind (bw a7) λa8=>
    some a8
   )else(
    aa (decide (x0=([82,73,71,72,84]:List UInt8)):Bool) λad=>
    if ad=true then(
     aa (IntKind.wrap .i64 ((f.length:Int)-H.1):Int) λF=>
     aJ ((0:Int)<=F/\F<=(f.length:Int))<|
     aa (i_ f F f.length:List UInt8) λaf=>
     obind (bw af) λao=>
     some ao
    )else(
     aa (decide (x0=([77,73,68]:List UInt8)):Bool) λb0=>
     if b0=true then(
      aJ ((0:Int)<=0/\0<(E.length:Int))<|
      aa (gel E 0:Int) λb1=>
      aa (IntKind.wrap .i64 (Int.tdiv b1 1000000):Int) λJ=>
      aa (decide (J<1):Bool) λb2=>
      if b2=true then(
       obind (aG (2:Int)) λb3=>
       some b3
      )else(
       aa (IntKind.wrap .i64 (J-1):Int) λb4=>
       aa (min b4 (f.length:Int):Int) λg=>
       aa (IntKind.wrap .i64 (g+H.1):Int) λb5=>
       aa (min b5 (f.length:Int):Int) λG=>
       aJ ((0:Int)<=g/\g<=G/\G<=(f.length:Int))<|
       aa (i_ f g G:List UInt8) λb6=>
       obind (bw b6) λb7=>
       some b7
      )
     )else(
      aa (decide (x0=([82,69,80,84]:List UInt8)):Bool) λbb=>
      if bb=true then(
       aJ ((0:Int)<=0/\0<(E.length:Int))<|
       aa (gel E 0:Int) λbk=>
       aa (IntKind.wrap .i64 (Int.tdiv bk 1000000):Int) λW=>
       aa (decide (64<W):Bool) λbq=>
       aa (!decide (f=[]):Bool) λbs=>
       aa (bq&&bs:Bool) λc6=>
       if c6=true then(
        obind (aG (2:Int)) λc7=>
        some c7
       )else(
        aa (min W 64:Int) λu=>
        aJ (0<=u/\u<=9223372036854775807/\f.length*(Int.toNat u)<=140737488355328)<|
        aa (Lib.repeatL f (Int.toNat u):(List UInt8)) λc8=>
        obind (bw c8) λcc=>
        some cc
       )
      )else(
       obind (aG (2:Int)) λch=>
       some ch
      )
     )
    )
   )
  )
 )
def jz(x0:List UInt8) (f:List (List UInt8)):Option (V):=
 aa (decide (x0=([67,79,78,67,65,84]:List UInt8)):Bool) λz3=>
 if z3=true then(
  aJ (f.length<=140737488355328/\(Lib.join f []).length<=140737488355328)<|
  aa (Lib.join f []:(List UInt8)) λz7=>
  obind (bw z7) λy8=>
  some y8
 )else(
  aa (decide (x0=([69,88,65,67,84]:List UInt8)):Bool) λz9=>
  aa (decide ((f.length:Int)=2):Bool) λJ=>
  aa (z9&&J:Bool) λW=>
  if W=true then(
   aJ ((0:Int)<=0/\0<(f.length:Int))<|
   aa (gel f 0:List UInt8) λX=>
   aJ ((0:Int)<=1/\1<(f.length:Int))<|
   aa (gel f 1:List UInt8) λY=>
   aa (decide (X=Y):Bool) λa1=>
   obind (bu a1) λa6=>
   some a6
  )else(
   aa (decide (x0=([70,73,78,68]:List UInt8)):Bool) λa7=>
   aa (decide ((f.length:Int)=2):Bool) λa8=>
   aa (a7&&a8:Bool) λad=>
   if ad=true then(
    aJ ((0:Int)<=1/\1<(f.length:Int))<|
    aa (gel f 1:List UInt8) λE=>
    aJ ((0:Int)<=0/\0<(f.length:Int))<|
    aa (gel f 0:List UInt8) λaf=>
    aJ (E.length<4294967281)<|
    aa (Lib.index E af:Int) λF=>
    aa (decide (F<0):Bool) λao=>
    if ao=true then(
     obind (aG (2:Int)) λb0=>
     some b0
    )else(
     aa (IntKind.wrap .i64 (F+1):Int) λb1=>
     obind (g_ b1) λG=>
     obind (bz G.1 G.2) λb2=>
     some b2
    )
   )else(
    aa (decide (x0=([83,85,66,83,84,73,84,85,84,69]:List UInt8)):Bool) λb3=>
    aa (decide ((f.length:Int)=3):Bool) λb4=>
    aa (b3&&b4:Bool) λb5=>
    if b5=true then(
     aJ ((0:Int)<=1/\1<(f.length:Int))<|
     aa (gel f 1:List UInt8) λb6=>
     aa (decide (b6=[]):Bool) λb7=>
     if b7=true then(
      aJ ((0:Int)<=0/\0<(f.length:Int))<|
      aa (gel f 0:List UInt8) λbb=>
      obind (bw bb) λbk=>
      some bk
     )else(
      aJ ((0:Int)<=0/\0<(f.length:Int))<|
      aa (gel f 0:List UInt8) λg=>
      aJ ((0:Int)<=1/\1<(f.length:Int))<|
      aa (gel f 1:List UInt8) λu=>
      aJ ((0:Int)<=2/\2<(f.length:Int))<|
      aa (gel f 2:List UInt8) λH=>
      aJ (g.length<4294967281/\1<=u.length/\g.length+Lib.countB ⟨g.toArray⟩ ⟨u.toArray⟩*H.length<=140737488355328)<|
      aa (Lib.replaceAll g u H:(List UInt8)) λbq=>
      obind (bw bq) λbs=>
      some bs
     )
    )else(
     obind (aG (2:Int)) λc6=>
     some c6
    )
   )
  )
 )
def dX(x0 u:List (V)):Option (V):=
 aa (!decide ((x0.length:Int)=(u.length:Int)):Bool) λz3=>
 if z3=true then(
  obind (aG (2:Int)) λy5=>
  some y5
 )else(
  obind (bW (0:Int)) λH=>
  aa ((λJ=>
   some (⟨J.2.2.2.1,J.2.2.2.2.1,J.2.2.2.2.2⟩:V)
   ):(Int × Int × (List UInt8) × Int × Int × (List UInt8))->Option (V)) λJ9=>
  aa (λ(E:(Int × Int × Int × (List UInt8) × Int × Int × (List UInt8))->Option (V)) (f:Int × Int × Int × (List UInt8) × Int × Int × (List UInt8))=>
   aa (decide (f.1<(x0.length:Int)):Bool) λW=>
   if W=true then(
    aJ ((0:Int)<=f.1/\f.1<(x0.length:Int))<|
    aa (gel x0 f.1:V) λX=>
    aa (!decide (X.k=1):Bool) λF=>
    aJ ((!F)=true->(0:Int)<=f.1/\f.1<(u.length:Int))<|
    aa (gel u f.1:V) λY=>
    aa (!decide (Y.k=1):Bool) λz23=>
    aa (F||z23:Bool) λa1=>
    if a1=true then(
     aa (IntKind.wrap .i64 (f.1+1):Int) λa6=>
     E (a6,f.2.1,f.2.2.1,f.2.2.2.1,f.2.2.2.2.1,f.2.2.2.2.2.1,f.2.2.2.2.2.2)
    )else(
     aJ ((0:Int)<=f.1/\f.1<(x0.length:Int))<|
     aa (gel x0 f.1:V) λa7=>
     aJ ((0:Int)<=f.1/\f.1<(u.length:Int))<|
     aa (gel u f.1:V) λa8=>
     obind (dO [a7,a8]) λad=>
     obind (gk [(⟨f.2.2.2.2.1,f.2.2.2.2.2.1,f.2.2.2.2.2.2⟩:V),ad]) λg=>
     aJ ((0:Int)<=f.1/\f.1<(x0.length:Int))<|
     aa (gel x0 f.1:V) λaf=>
     aJ ((0:Int)<=f.1/\f.1<(u.length:Int))<|
     aa (gel u f.1:V) λao=>
     obind (dO [af,ao]) λG=>
     aa (decide (G.k=4):Bool) λb0=>
     if b0=true then(
      some G
     )else(
      aa (decide (g.k=4):Bool) λb1=>
      if b1=true then(
       some g
      )else(
       aa (IntKind.wrap .i64 (f.1+1):Int) λb2=>
       E (b2,f.2.1,f.2.2.1,f.2.2.2.1,g.k,g.n,g.s)
      )
     )
    )
   )else(
    J9 (f.2.1,f.2.2.1,f.2.2.2.1,f.2.2.2.2.1,f.2.2.2.2.2.1,f.2.2.2.2.2.2)
   )
   ) λb3=>
  loopF b3 KK (0,0,0,[],H.k,H.n,H.s)
 )
def cr(x0:Arg):Option (V):=
 aa (!decide ((x0.l.length:Int)=1):Bool) λf=>
 if f=true then(
  obind (aG (2:Int)) λg=>
  some g
 )else(
  aJ ((0:Int)<=0/\0<(x0.l.length:Int))<|
  aa (gel x0.l 0:V) λu=>
  some u
 )
def fi(x0:List (Arg)):Option ((List (Int)) × V):=
 aa ((λJ=>
  some (J.2.2.2,(⟨0,0,[]⟩:V))
  ):(Int × Int × (List UInt8) × (List (Int)))->Option ((List (Int)) × V)) λW=>
 aa (λ(X:(Int × Int × Int × (List UInt8) × (List (Int)))->Option ((List (Int)) × V)) (f:Int × Int × Int × (List UInt8) × (List (Int)))=>
  aa (decide (f.1<(x0.length:Int)):Bool) λY=>
  if Y=true then(
   aJ ((0:Int)<=f.1/\f.1<(x0.length:Int))<|
   aa (gel x0 f.1:Arg) λu=>
   obind (cr u) λE=>
   obind (b9 E) λg=>
   aa (decide (g.k=4):Bool) λF=>
   if F=true then(
    some ([],g)
   )else(
    aJ (f.2.2.2.2.length+[g.n].length<=9223372036854775807/\(f.2.2.2.2.length+[g.n].length)*8<=140737488355328)<|
    aa (f.2.2.2.2++[g.n]:List (Int)) λG=>
    aa (IntKind.wrap .i64 (f.1+1):Int) λH=>
    X (H,f.2.1,f.2.2.1,f.2.2.2.1,G)
   )
  )else(
   W (f.2.1,f.2.2.1,f.2.2.2.1,f.2.2.2.2)
  )
  ) λB6=>
 loopF B6 KK (0,0,0,[],([]:List (Int)))
def gS(x0:List (Arg)):Option ((List (List UInt8)) × V):=
 aa ((λJ=>
  some (J.2.2.2,(⟨0,0,[]⟩:V))
  ):(Int × Int × (List UInt8) × (List (List UInt8)))->Option ((List (List UInt8)) × V)) λW=>
 aa (λ(X:(Int × Int × Int × (List UInt8) × (List (List UInt8)))->Option ((List (List UInt8)) × V)) (f:Int × Int × Int × (List UInt8) × (List (List UInt8)))=>
  aa (decide (f.1<(x0.length:Int)):Bool) λY=>
  if Y=true then(
   aJ ((0:Int)<=f.1/\f.1<(x0.length:Int))<|
   aa (gel x0 f.1:Arg) λu=>
   obind (cr u) λE=>
   obind (gE E) λg=>
   aa (decide (g.k=4):Bool) λF=>
   if F=true then(
    some ([],g)
   )else(
    aJ (f.2.2.2.2.length+[g.s].length<=9223372036854775807/\(f.2.2.2.2.length+[g.s].length)*16<=140737488355328)<|
    aa (f.2.2.2.2++[g.s]:List (List UInt8)) λG=>
    aa (IntKind.wrap .i64 (f.1+1):Int) λH=>
    X (H,f.2.1,f.2.2.1,f.2.2.2.1,G)
   )
  )else(
   W (f.2.1,f.2.2.1,f.2.2.2.1,f.2.2.2.2)
  )
  ) λB6=>
 loopF B6 KK (0,0,0,[],([]:List (List UInt8)))
def dW(x0:List (Arg)):Option ((List (V))):=
 aa ((λF=>
  some F
  ):((List (V)))->Option ((List (V)))) λG=>
 aa (λ(H:(Int × (List (V)))->Option ((List (V)))) (f:Int × (List (V)))=>
  aa (decide (f.1<(x0.length:Int)):Bool) λJ=>
  if J=true then(
   aJ ((0:Int)<=f.1/\f.1<(x0.length:Int))<|
   aa (gel x0 f.1:Arg) λg=>
   aJ (f.2.length+g.l.length<=9223372036854775807/\(f.2.length+g.l.length)*32<=140737488355328)<|
   aa (f.2++g.l:List (V)) λu=>
   aa (IntKind.wrap .i64 (f.1+1):Int) λE=>
   H (E,u)
  )else(
   G f.2
  )
  ) λW=>
 loopF W KK (0,([]:List (V)))
def jy(x0:List UInt8) (g:V):Option (V):=
 aa (decide (x0=([73,83,78,85,77,66,69,82]:List UInt8)):Bool) λz5=>
 if z5=true then(
  aa (decide (g.k=1):Bool) λz7=>
  obind (bu z7) λy8=>
  some y8
 )else(
  aa (decide (x0=([73,83,84,69,88,84]:List UInt8)):Bool) λz9=>
  if z9=true then(
   aa (decide (g.k=2):Bool) λu=>
   obind (bu u) λE=>
   some E
  )else(
   aa (decide (x0=([73,83,66,76,65,78,75]:List UInt8)):Bool) λF=>
   if F=true then(
    aa (decide (g.k=0):Bool) λG=>
    obind (bu G) λH=>
    some H
   )else(
    aa (decide (x0=([73,83,69,82,82,79,82]:List UInt8)):Bool) λJ=>
    if J=true then(
     aa (decide (g.k=4):Bool) λW=>
     obind (bu W) λX=>
     some X
    )else(
     aa (decide (x0=([73,83,76,79,71,73,67,65,76]:List UInt8)):Bool) λY=>
     if Y=true then(
      aa (decide (g.k=3):Bool) λa1=>
      obind (bu a1) λa6=>
      some a6
     )else(
      aa (decide (x0=([78,79,84]:List UInt8)):Bool) λa7=>
      if a7=true then(
       obind (bZ g) λf=>
       aa (decide (f.k=4):Bool) λa8=>
       if a8=true then(
        some f
       )else(
        aa (decide (f.n=0):Bool) λad=>
        obind (bu ad) λaf=>
        some af
       )
      )else(
       obind (aG (2:Int)) λao=>
       some ao
      )
     )
    )
   )
  )
 )
def jA(x0:List UInt8) (f:List (Arg)):Option (V):=
 aa ((λs5=>
  if s5=true then(
   aa (decide (x0=([77,65,88]:List UInt8)):Bool) λz7=>
   obind (dW f) λy8=>
   obind (fY z7 y8) λcc=>
   some cc
  )else(
   aa (decide (x0=([83,85,77]:List UInt8)):Bool) λch=>
   if ch=true then(
    obind (dW f) λcp=>
    obind (gk cp) λct=>
    some ct
   )else(
    aa (decide (x0=([80,82,79,68,85,67,84]:List UInt8)):Bool) λcx=>
    if cx=true then(
     obind (dW f) λcy=>
     obind (dO cy) λda=>
     some da
    )else(
     aa (decide (x0=([67,79,85,78,84]:List UInt8)):Bool) λdd=>
     if dd=true then(
      obind (dW f) λdj=>
      obind (fj (1:Int) true dj) λdn=>
      some dn
     )else(
      aa (decide (x0=([67,79,85,78,84,65]:List UInt8)):Bool) λdv=>
      if dv=true then(
       obind (dW f) λdz=>
       obind (fj (0:Int) false dz) λe0=>
       some e0
      )else(
       aa (decide (x0=([67,79,85,78,84,66,76,65,78,75]:List UInt8)):Bool) λe1=>
       if e1=true then(
        obind (dW f) λe2=>
        obind (fj (0:Int) true e2) λe3=>
        some e3
       )else(
        aa (decide (x0=([65,86,69,82,65,71,69]:List UInt8)):Bool) λe4=>
        if e4=true then(
         obind (dW f) λe5=>
         obind (fU e5) λe6=>
         some e6
        )else(
         aa (decide (x0=([67,79,85,78,84,73,70]:List UInt8)):Bool) λe7=>
         if e7=true then(
          aJ ((0:Int)<=1/\1<(f.length:Int))<|
          aa (gel f 1:Arg) λe8=>
          obind (cr e8) λe9=>
          aJ ((0:Int)<=0/\0<(f.length:Int))<|
          aa (gel f 0:Arg) λea=>
          obind (fZ e9 ea.l) λeb=>
          some eb
         )else(
          aa (decide (x0=([83,85,77,73,70]:List UInt8)):Bool) λec=>
          if ec=true then(
           aJ ((0:Int)<=1/\1<(f.length:Int))<|
           aa (gel f 1:Arg) λed=>
           obind (cr ed) λef=>
           aJ ((0:Int)<=0/\0<(f.length:Int))<|
           aa (gel f 0:Arg) λei=>
           obind (iq ef ei.l) λej=>
           some ej
          )else(
           aa (decide (x0=([83,85,77,80,82,79,68,85,67,84]:List UInt8)):Bool) λel=>
           if el=true then(
            aJ ((0:Int)<=0/\0<(f.length:Int))<|
            aa (gel f 0:Arg) λeo=>
            aJ ((0:Int)<=1/\1<(f.length:Int))<|
            aa (gel f 1:Arg) λep=>
            obind (dX eo.l ep.l) λer=>
            some er
           )else(
            aa (decide (x0=([77,65,84,67,72]:List UInt8)):Bool) λet=>
            if et=true then(
             aJ ((0:Int)<=0/\0<(f.length:Int))<|
             aa (gel f 0:Arg) λeu=>
             obind (cr eu) λew=>
             aJ ((0:Int)<=1/\1<(f.length:Int))<|
             aa (gel f 1:Arg) λey=>
             obind (iu ew ey.l) λez=>
             some ez
            )else(
             aa (decide (x0=([82,79,87,83]:List UInt8)):Bool) λeF=>
             if eF=true then(
              aJ ((0:Int)<=0/\0<(f.length:Int))<|
              aa (gel f 0:Arg) λeJ=>
              aJ ((0:Int)<=0/\0<(f.length:Int))<|
              aa (gel f 0:Arg) λeZ=>
              aa (max eZ.cols 1:Int) λF=>
              aJ (F≠0)<|
              aa (IntKind.wrap .i64 (Int.tdiv (eJ.l.length:Int) F):Int) λff=>
              obind (g_ ff) λG=>
              obind (bz G.1 G.2) λfs=>
              some fs
             )else(
              aa (decide (x0=([67,79,76,85,77,78,83]:List UInt8)):Bool) λgb=>
              if gb=true then(
               aJ ((0:Int)<=0/\0<(f.length:Int))<|
               aa (gel f 0:Arg) λgf=>
               obind (g_ gf.cols) λH=>
               obind (bz H.1 H.2) λgg=>
               some gg
              )else(
               aa (decide (x0=([78,65]:List UInt8)):Bool) λJ=>
               if J=true then(
                obind (aG (6:Int)) λW=>
                some W
               )else(
                aa (decide (x0=([73,78,68,69,88]:List UInt8)):Bool) λX=>
                if X=true then(
                 aJ ((0:Int)<=(1:Int)/\(1:Int)<=(f.length:Int)/\(f.length:Int)<=(f.length:Int))<|
                 aa (fd f (1:Int) (f.length:Int):List (Arg)) λY=>
                 obind (fi Y) λg=>
                 aa (decide (g.2.k=4):Bool) λa1=>
                 if a1=true then(
                  some g.2
                 )else(
                  aJ ((0:Int)<=0/\0<(f.length:Int))<|
                  aa (gel f 0:Arg) λa6=>
                  aJ ((0:Int)<=0/\0<(g.1.length:Int))<|
                  aa (gel g.1 0:Int) λa7=>
                  aa (IntKind.wrap .i64 (Int.tdiv a7 1000000):Int) λa8=>
                  aJ ((0:Int)<=1/\1<(g.1.length:Int))<|
                  aa (gel g.1 1:Int) λad=>
                  aa (IntKind.wrap .i64 (Int.tdiv ad 1000000):Int) λaf=>
                  aJ ((0:Int)<=0/\0<(f.length:Int))<|
                  aa (gel f 0:Arg) λao=>
                  obind (iG a6.cols a8 af ao.l) λb0=>
                  some b0
                 )
                )else(
                 aa (decide (x0=([86,76,79,79,75,85,80]:List UInt8)):Bool) λb1=>
                 if b1=true then(
                  aJ ((0:Int)<=(2:Int)/\(2:Int)<=(f.length:Int)/\(f.length:Int)<=(f.length:Int))<|
                  aa (fd f (2:Int) (f.length:Int):List (Arg)) λb2=>
                  obind (fi b2) λu=>
                  aa (decide (u.2.k=4):Bool) λb3=>
                  if b3=true then(
                   some u.2
                  )else(
                   aJ ((0:Int)<=0/\0<(f.length:Int))<|
                   aa (gel f 0:Arg) λb4=>
                   obind (cr b4) λb5=>
                   aJ ((0:Int)<=1/\1<(f.length:Int))<|
                   aa (gel f 1:Arg) λb6=>
                   aJ ((0:Int)<=0/\0<(u.1.length:Int))<|
                   aa (gel u.1 0:Int) λb7=>
                   aa (IntKind.wrap .i64 (Int.tdiv b7 1000000):Int) λbb=>
                   aJ ((0:Int)<=1/\1<(f.length:Int))<|
                   aa (gel f 1:Arg) λbk=>
                   obind (fO b5 b6.cols bb bk.l) λbq=>
                   some bq
                  )
                 )else(
                  aJ ((0:Int)<=0/\0<(f.length:Int))<|
                  aa (gel f 0:Arg) λbs=>
                  obind (cr bs) λc6=>
                  obind (jy x0 c6) λc7=>
                  some c7
                 )
                )
               )
              )
             )
            )
           )
          )
         )
        )
       )
      )
     )
    )
   )
  )
  ):(Bool)->Option (V)) λJ5=>
 aa (decide (x0=([77,73,78]:List UInt8)):Bool) λE=>
 if E=true then(
  J5 E
 )else(
  aa (decide (x0=([77,65,88]:List UInt8)):Bool) λc8=>
  J5 c8
 )
def iD(x0:Int) (G:List (Arg)):Option (V):=
 obind (fH x0) λf=>
 obind (cn x0 (G.length:Int)) λy4=>
 aa (!y4:Bool) λz5=>
 if z5=true then(
  obind (aG (2:Int)) λy7=>
  some y7
 )else(
  aa ((λcc=>
   if cc=true then(
    obind (fi G) λu=>
    aa (decide (u.2.k=4):Bool) λch=>
    if ch=true then(
     some u.2
    )else(
     aa (decide ((u.1.length:Int)=1):Bool) λcp=>
     if cp=true then(
      aJ ((0:Int)<=0/\0<(u.1.length:Int))<|
      aa (gel u.1 0:Int) λct=>
      obind (kb f ct) λcx=>
      some cx
     )else(
      aJ ((0:Int)<=0/\0<(u.1.length:Int))<|
      aa (gel u.1 0:Int) λcy=>
      aJ ((0:Int)<=1/\1<(u.1.length:Int))<|
      aa (gel u.1 1:Int) λda=>
      obind (kd f cy da) λdd=>
      some dd
     )
    )
   )else(
    aa ((λdj=>
     if dj=true then(
      obind (gS G) λF=>
      aa (decide (F.2.k=4):Bool) λdn=>
      if dn=true then(
       some F.2
      )else(
       aa (decide ((F.1.length:Int)=1):Bool) λdv=>
       aa (!decide (f=([67,79,78,67,65,84]:List UInt8)):Bool) λdz=>
       aa (dv&&dz:Bool) λe0=>
       if e0=true then(
        aJ ((0:Int)<=0/\0<(F.1.length:Int))<|
        aa (gel F.1 0:List UInt8) λe1=>
        obind (kp f e1) λe2=>
        some e2
       )else(
        obind (jz f F.1) λe3=>
        some e3
       )
      )
     )else(
      aa ((λe4=>
       if e4=true then(
        aJ ((0:Int)<=(0:Int)/\(0:Int)<=(1:Int)/\(1:Int)<=(G.length:Int))<|
        aa (fd G (0:Int) (1:Int):List (Arg)) λe5=>
        obind (gS e5) λH=>
        aa (decide (H.2.k=4):Bool) λe6=>
        if e6=true then(
         some H.2
        )else(
         aJ ((0:Int)<=(1:Int)/\(1:Int)<=(G.length:Int)/\(G.length:Int)<=(G.length:Int))<|
         aa (fd G (1:Int) (G.length:Int):List (Arg)) λe7=>
         obind (fi e7) λb0=>
         aa (decide (b0.2.k=4):Bool) λe8=>
         if e8=true then(
          some b0.2
         )else(
          aJ ((0:Int)<=0/\0<(H.1.length:Int))<|
          aa (gel H.1 0:List UInt8) λe9=>
          obind (jn f e9 b0.1) λea=>
          some ea
         )
        )
       )else(
        obind (jA f G) λeb=>
        some eb
       )
       ):(Bool)->Option (V)) λJ=>
      aa (decide (f=([76,69,70,84]:List UInt8)):Bool) λb1=>
      if b1=true then(
       J b1
      )else(
       aa (decide (f=([82,73,71,72,84]:List UInt8)):Bool) λb2=>
       if b2=true then(
        J b2
       )else(
        aa (decide (f=([77,73,68]:List UInt8)):Bool) λb3=>
        if b3=true then(
         J b3
        )else(
         aa (decide (f=([82,69,80,84]:List UInt8)):Bool) λec=>
         J ec
        )
       )
      )
     )
     ):(Bool)->Option (V)) λE=>
    aa (decide (f=([76,69,78]:List UInt8)):Bool) λb4=>
    if b4=true then(
     E b4
    )else(
     aa (decide (f=([85,80,80,69,82]:List UInt8)):Bool) λb5=>
     if b5=true then(
      E b5
     )else(
      aa (decide (f=([76,79,87,69,82]:List UInt8)):Bool) λb6=>
      if b6=true then(
       E b6
      )else(
       aa (decide (f=([84,82,73,77]:List UInt8)):Bool) λb7=>
       if b7=true then(
        E b7
       )else(
        aa (decide (f=([86,65,76,85,69]:List UInt8)):Bool) λbb=>
        if bb=true then(
         E bb
        )else(
         aa (decide (f=([67,79,78,67,65,84]:List UInt8)):Bool) λbk=>
         if bk=true then(
          E bk
         )else(
          aa (decide (f=([69,88,65,67,84]:List UInt8)):Bool) λbq=>
          if bq=true then(
           E bq
          )else(
           aa (decide (f=([70,73,78,68]:List UInt8)):Bool) λbs=>
           if bs=true then(
            E bs
           )else(
            aa (decide (f=([83,85,66,83,84,73,84,85,84,69]:List UInt8)):Bool) λed=>
            E ed
           )
          )
         )
        )
       )
      )
     )
    )
   )
   ):(Bool)->Option (V)) λg=>
  aa (decide (f=([65,66,83]:List UInt8)):Bool) λc6=>
  if c6=true then(
   g c6
  )else(
   aa (decide (f=([83,73,71,78]:List UInt8)):Bool) λc7=>
   if c7=true then(
    g c7
   )else(
    aa (decide (f=([73,78,84]:List UInt8)):Bool) λW=>
    if W=true then(
     g W
    )else(
     aa (decide (f=([84,82,85,78,67]:List UInt8)):Bool) λX=>
     if X=true then(
      g X
     )else(
      aa (decide (f=([69,86,69,78]:List UInt8)):Bool) λY=>
      if Y=true then(
       g Y
      )else(
       aa (decide (f=([79,68,68]:List UInt8)):Bool) λa1=>
       if a1=true then(
        g a1
       )else(
        aa (decide (f=([70,65,67,84]:List UInt8)):Bool) λa6=>
        if a6=true then(
         g a6
        )else(
         aa (decide (f=([82,79,85,78,68]:List UInt8)):Bool) λa7=>
         if a7=true then(
          g a7
         )else(
          aa (decide (f=([77,79,68]:List UInt8)):Bool) λa8=>
          if a8=true then(
           g a8
          )else(
           aa (decide (f=([80,79,87,69,82]:List UInt8)):Bool) λad=>
           if ad=true then(
            g ad
           )else(
            aa (decide (f=([81,85,79,84,73,69,78,84]:List UInt8)):Bool) λaf=>
            if af=true then(
             g af
            )else(
             aa (decide (f=([71,67,68]:List UInt8)):Bool) λao=>
             if ao=true then(
              g ao
             )else(
              aa (decide (f=([76,67,77]:List UInt8)):Bool) λc8=>
              g c8
             )
            )
           )
          )
         )
        )
       )
      )
     )
    )
   )
  )
 )
def eH(x0:Int) (Y x2:V):Option (V):=
 aa (decide (6<=x0):Bool) λz5=>
 if z5=true then(
  obind (fT Y x2) λE=>
  aa (decide (E=0):Bool) λz8=>
  aa (!decide (E=0):Bool) λz9=>
  aa (decide (E<0):Bool) λa1=>
  aa (decide (E<=0):Bool) λa6=>
  aa (decide (0<E):Bool) λa7=>
  aa (decide (0<=E):Bool) λa8=>
  aa (IntKind.wrap .i64 (x0-6):Int) λu=>
  aJ ((0:Int)<=u/\u<(6:Int))<|
  aa (gel [z8,z9,a1,a6,a7,a8] u:Bool) λad=>
  obind (bu ad) λaf=>
  some af
 )else(
  aa (decide (x0=5):Bool) λao=>
  if ao=true then(
   obind (dy Y) λF=>
   obind (dy x2) λG=>
   aJ (F.length+G.length<=9223372036854775807)<|
   aa (F++G:List UInt8) λb0=>
   obind (bw b0) λb1=>
   some b1
  )else(
   obind (b9 Y) λg=>
   obind (b9 x2) λf=>
   aa (decide (g.k=4):Bool) λb2=>
   if b2=true then(
    some g
   )else(
    aa (decide (f.k=4):Bool) λb3=>
    if b3=true then(
     some f
    )else(
     aa (decide (x0=1):Bool) λb4=>
     if b4=true then(
      obind (kL g.n f.n) λH=>
      obind (bz H.1 H.2) λb5=>
      some b5
     )else(
      aa (decide (x0=2):Bool) λb6=>
      if b6=true then(
       obind (l_ g.n f.n) λJ=>
       obind (bz J.1 J.2) λb7=>
       some b7
      )else(
       aa (decide (x0=3):Bool) λbb=>
       if bb=true then(
        obind (kB g.n f.n) λW=>
        obind (bz W.1 W.2) λbk=>
        some bk
       )else(
        aa (decide (f.n=0):Bool) λbq=>
        if bq=true then(
         obind (aG (1:Int)) λbs=>
         some bs
        )else(
         obind (kF g.n f.n) λX=>
         obind (bz X.1 X.2) λc6=>
         some c6
        )
       )
      )
     )
    )
   )
  )
 )
def dr(x0:Int) (G:V):Option (V):=
 obind (b9 G) λg=>
 aa (decide (g.k=4):Bool) λH=>
 if H=true then(
  some g
 )else(
  aa (decide (x0=5):Bool) λJ=>
  if J=true then(
   aa (IntKind.wrap .i64 (-g.n):Int) λu=>
   obind (bW u) λE=>
   some E
  )else(
   obind (kF g.n (100000000:Int)) λf=>
   obind (bz f.1 f.2) λF=>
   some F
  )
 )
def fk(x0:Int):Option (Bool):=
 obind (fH x0) λf=>
 aa ((λs5=>
  if s5=true then(
   some true
  )else(
   some false
  )
  ):(Bool)->Option (Bool)) λg=>
 aa (decide (f=([67,79,85,78,84]:List UInt8)):Bool) λY=>
 if Y=true then(
  g Y
 )else(
  aa (decide (f=([67,79,85,78,84,65]:List UInt8)):Bool) λz9=>
  if z9=true then(
   g z9
  )else(
   aa (decide (f=([67,79,85,78,84,66,76,65,78,75]:List UInt8)):Bool) λu=>
   if u=true then(
    g u
   )else(
    aa (decide (f=([73,83,78,85,77,66,69,82]:List UInt8)):Bool) λE=>
    if E=true then(
     g E
    )else(
     aa (decide (f=([73,83,84,69,88,84]:List UInt8)):Bool) λF=>
     if F=true then(
      g F
     )else(
      aa (decide (f=([73,83,66,76,65,78,75]:List UInt8)):Bool) λG=>
      if G=true then(
       g G
      )else(
       aa (decide (f=([73,83,69,82,82,79,82]:List UInt8)):Bool) λH=>
       if H=true then(
        g H
       )else(
        aa (decide (f=([73,83,76,79,71,73,67,65,76]:List UInt8)):Bool) λJ=>
        if J=true then(
         g J
        )else(
         aa (decide (f=([82,79,87,83]:List UInt8)):Bool) λW=>
         if W=true then(
          g W
         )else(
          aa (decide (f=([67,79,76,85,77,78,83]:List UInt8)):Bool) λX=>
          g X
         )
        )
       )
      )
     )
    )
   )
  )
 )
def bg(x0:V):Option (Nd):=
 some ((⟨1,0,x0,(⟨(⟨0,0,0⟩:C),false,false⟩:Rf),(⟨(⟨0,0,0⟩:C),false,false⟩:Rf),[],[]⟩:Nd))
def l6(x0:Rf):Option (Nd):=
 some ((⟨2,0,(⟨0,0,[]⟩:V),x0,(⟨(⟨0,0,0⟩:C),false,false⟩:Rf),[],[]⟩:Nd))
def g9(x0:Int) (f:List (Nd)):Option (Nd):=
 aJ (([]:List (Nd)).length+f.length<=9223372036854775807/\(([]:List (Nd)).length+f.length)*152<=140737488355328)<|
 aa (([]:List (Nd))++f:List (Nd)) λg=>
 some ((⟨8,x0,(⟨0,0,[]⟩:V),(⟨(⟨0,0,0⟩:C),false,false⟩:Rf),(⟨(⟨0,0,0⟩:C),false,false⟩:Rf),[],g⟩:Nd))
def gh(x0:Int) (f:Nd):Option (Nd):=
 some ((⟨x0,0,(⟨0,0,[]⟩:V),(⟨(⟨0,0,0⟩:C),false,false⟩:Rf),(⟨(⟨0,0,0⟩:C),false,false⟩:Rf),[],[f]⟩:Nd))
def iw(x0:Int) (f g:Nd):Option (Nd):=
 some ((⟨7,x0,(⟨0,0,[]⟩:V),(⟨(⟨0,0,0⟩:C),false,false⟩:Rf),(⟨(⟨0,0,0⟩:C),false,false⟩:Rf),[],[f,g]⟩:Nd))
def lW(x0 f:Rf):Option (Nd):=
 some (⟨3,0,(⟨0,0,[]⟩:V),x0,f,[],[]⟩:Nd)
def fo(x0 f:C):Option (C × C × Bool):=
 aa (!decide (x0.s=f.s):Bool) λE=>
 if E=true then(
  some (x0,f,false)
 )else(
  aa (min x0.c f.c:Int) λF=>
  aa (min x0.r f.r:Int) λG=>
  aa (max x0.c f.c:Int) λg=>
  aa (max x0.r f.r:Int) λu=>
  some ((⟨x0.s,F,G⟩:C),(⟨x0.s,g,u⟩:C),true)
 )
def bT(x0:List V) (f:C):Option (V):=
 aa (decide (f.s<0):Bool) λJ=>
 aa (decide (1<f.s):Bool) λz5=>
 aa (J||z5:Bool) λW=>
 aa (decide (f.c<0):Bool) λz7=>
 aa (W||z7:Bool) λX=>
 aa (decide (7<f.c):Bool) λz9=>
 aa (X||z9:Bool) λu=>
 aa (decide (f.r<0):Bool) λz11=>
 aa (u||z11:Bool) λE=>
 aa (decide (7<f.r):Bool) λz13=>
 aa (E||z13:Bool) λF=>
 if F=true then(
  some (⟨0,0,[]⟩:V)
 )else(
  aa (IntKind.wrap .i64 (8*f.r):Int) λG=>
  aa (IntKind.wrap .i64 (G+f.c):Int) λg=>
  aJ ((0:Int)<=f.s/\f.s<(2:Int))<|
  aJ ((0:Int)<=g/\g<(64:Int))<|
  aa (gel x0 (64*f.s+g):V) λH=>
  some H
 )
def bR(x0:List V) (g:C):Option (V × C):=
 obind (bT x0 g) λf=>
 aa (decide (f.k=4):Bool) λu=>
 if u=true then(
  some (f,g)
 )else(
  some (f,(⟨0,0,0⟩:C))
 )
def ci(x0:List V) (f:List UInt8):Option (Nd × Bool):=
 aa (decide (f=([82,65,84,69]:List UInt8)):Bool) λg=>
 if g=true then(
  some ((⟨2,0,(⟨0,0,[]⟩:V),(⟨(⟨0,0,0⟩:C),false,false⟩:Rf),(⟨(⟨0,0,0⟩:C),false,false⟩:Rf),[],[]⟩:Nd),true)
 )else(
  aa (decide (f=([76,73,83,84]:List UInt8)):Bool) λu=>
  if u=true then(
   some ((⟨3,0,(⟨0,0,[]⟩:V),(⟨(⟨0,0,0⟩:C),false,false⟩:Rf),(⟨(⟨0,1,1⟩:C),false,false⟩:Rf),[],[]⟩:Nd),true)
  )else(
   some ((⟨0,0,(⟨0,0,[]⟩:V),(⟨(⟨0,0,0⟩:C),false,false⟩:Rf),(⟨(⟨0,0,0⟩:C),false,false⟩:Rf),[],[]⟩:Nd),false)
  )
 )
def dl(x0:List (V)):Option (List V):=
 aa ((λs3=>
  some s3
  ):((List V))->Option (List V)) λJ3=>
 aa (λ(n5:(Int × (List V))->Option (List V)) (f:Int × (List V))=>
  aa (decide (f.1<(x0.length:Int)):Bool) λz7=>
  if z7=true then(
   aJ ((0:Int)<=f.1/\f.1<(x0.length:Int))<|
   aa (gel x0 f.1:V) λg=>
   aa (decide (f.1<128):Bool) λH=>
   aa (decide ((g.s.length:Int)<=64):Bool) λJ=>
   aa (H&&J:Bool) λF=>
   obind (if F=true then co g else some default) λW=>
   aa (F&&W:Bool) λX=>
   if X=true then(
    aa (bits .and .i64 f.1 1:Int) λu=>
    aa (IntKind.wrap .i64 (Int.tdiv f.1 2):Int) λE=>
    aJ ((0:Int)<=u/\u<(2:Int))<|
    aJ ((0:Int)<=E/\E<(64:Int))<|
    aa (f.2.set (Int.toNat (64*u+E)) g:List V) λG=>
    aa (IntKind.wrap .i64 (f.1+1):Int) λY=>
    n5 (Y,G)
   )else(
    aa (IntKind.wrap .i64 (f.1+1):Int) λa1=>
    n5 (a1,f.2)
   )
  )else(
   J3 f.2
  )
  ) λB5=>
 loopF B5 KK (0,jT)
def eval_Area(x0:List V) (g:Nd):Option (C × C × Bool):=
 aa ((λu=>
  aa (decide (u.1=3):Bool) λJ=>
  if J=true then(
   obind (fo (⟨u.2.2.2.2.2.1,u.2.2.2.2.2.2.1,u.2.2.2.2.2.2.2.1⟩:C) (⟨u.2.2.2.2.2.2.2.2.2.2.1,u.2.2.2.2.2.2.2.2.2.2.2.1,u.2.2.2.2.2.2.2.2.2.2.2.2.1⟩:C)) λE=>
   some (E.1,E.2.1,E.2.2)
  )else(
   aa (decide (u.1=2):Bool) λF=>
   if F=true then(
    some ((⟨u.2.2.2.2.2.1,u.2.2.2.2.2.2.1,u.2.2.2.2.2.2.2.1⟩:C),(⟨u.2.2.2.2.2.1,u.2.2.2.2.2.2.1,u.2.2.2.2.2.2.2.1⟩:C),true)
   )else(
    some ((⟨0,0,0⟩:C),(⟨0,0,0⟩:C),false)
   )
  )
  ):(Int × Int × Int × Int × (List UInt8) × Int × Int × Int × Bool × Bool × Int × Int × Int × Bool × Bool × (List UInt8) × (List (Nd)))->Option (C × C × Bool)) λG=>
 aa (decide (g.k=4):Bool) λH=>
 if H=true then(
  obind (ci x0 g.nm) λf=>
  if f.2=true then(
   G (f.1.k,f.1.op,f.1.v.k,f.1.v.n,f.1.v.s,f.1.a.c.s,f.1.a.c.c,f.1.a.c.r,f.1.a.ac,f.1.a.ar,f.1.b.c.s,f.1.b.c.c,f.1.b.c.r,f.1.b.ac,f.1.b.ar,f.1.nm,f.1.l)
  )else(
   G (g.k,g.op,g.v.k,g.v.n,g.v.s,g.a.c.s,g.a.c.c,g.a.c.r,g.a.ac,g.a.ar,g.b.c.s,g.b.c.c,g.b.c.r,g.b.ac,g.b.ar,g.nm,g.l)
  )
 )else(
  G (g.k,g.op,g.v.k,g.v.n,g.v.s,g.a.c.s,g.a.c.c,g.a.c.r,g.a.ac,g.a.ar,g.b.c.s,g.b.c.c,g.b.c.r,g.b.ac,g.b.ar,g.nm,g.l)
 )
def aK(x0:Rn) (f:V):Option (Gt):=
 some (⟨f,x0.c⟩:Gt)
def cU(x0:Rn) (g:C) (E:List (C × Bool)):Option ((Gt) × List (C × Bool)):=
 aa (ld E g true:List (C × Bool)) λf=>
 obind (bR x0.p g) λu=>
 some ((⟨u.1,u.2⟩:Gt),f)
end Go.Sp
end
