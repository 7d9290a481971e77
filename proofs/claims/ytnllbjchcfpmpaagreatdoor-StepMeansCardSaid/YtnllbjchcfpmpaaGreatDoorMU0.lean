/- Joined texts. -/
import Derived.Test.YtnllbjchcfpmpaaGreatDoorMM0
import Derived.Test.YtnllbjchcfpmpaaGreatDoorMS0
set_option linter.all false
section
namespace Go.Sp
open Go.Stp Go.ValP
def ub(a b:C) (i:Nat):List C:=(List.range (b.c-a.c+1).toNat).map λj:Nat=>⟨a.s,a.c+j,a.r+i⟩
def xu(a b:C) (i j:Nat):List C:=((List.range i).flatMap (ub a b))++(List.range j).map λj:Nat=>(⟨a.s,a.c+j,a.r+i⟩:C)
def oq(a b:C):List C:=(List.range (b.r-a.r+1).toNat).flatMap (ub a b)
def hM(a b:C):Option (List C):=
 obind (fo a b) λo=>
 if o.2.2=true then
  aJ ((-9223372036854775808<=o.1.c/\o.2.1.c<9223372036854775807)/\-9223372036854775808<=o.1.r/\o.2.1.r<9223372036854775807)<|
  some (oq o.1 o.2.1)
 else some []
theorem th{a b:C}{i j:Nat}:xu a b i j++[⟨a.s,a.c+j,a.r+i⟩]=xu a b i (j+1):=by
 unfold xu
 rw[List.append_assoc,List.range_succ,List.map_append]
 rfl
theorem Ba{a b:C}{i:Nat}:xu a b i (b.c-a.c+1).toNat=xu a b (i+1) 0:=by
 unfold xu
 rw[List.range_succ,List.flatMap_append]
 simp[ub]
theorem Ai{a b:C}:xu a b (b.r-a.r+1).toNat 0=oq a b:=by simp[xu,oq]
theorem vl{a b:C}{i j:Nat}(hi:i<(b.r-a.r+1).toNat) (u:j<=(b.c-a.c+1).toNat):xu a b i j <+: oq a b:=by
 unfold xu oq
 obtain⟨m,f⟩:∃m,(b.r-a.r+1).toNat=i+(1+m):=⟨(b.r-a.r+1).toNat-i-1,by omega⟩
 obtain⟨k,g⟩:∃k,(b.c-a.c+1).toNat=j+k:=⟨(b.c-a.c+1).toNat-j,by omega⟩
 rw[f,List.range_add,List.flatMap_append,List.range_add,List.map_append,List.flatMap_append]
 have e:List.flatMap (ub a b) (List.map (λx=>i+x) (List.range 1))=ub a b i:=by simp
 rw[e]
 refine List.prefix_append_right_inj _ |>.2 ?_
 unfold ub
 rw[g,List.range_add,List.map_append,List.append_assoc]
 exact List.prefix_append _ _
def aV(rec:Rn->Nd->(List (C × Bool))->Option ((Gt) × List (C × Bool))) (x0:Rn) (u:Nd) (E:List (C × Bool)):Option ((Gt) × List (C × Bool)):=
 obind (rec x0 u E) λf=>
 aa (decide (f.1.v.k=4):Bool) λF=>
 if F=true then(
  some (f.1,f.2)
 )else(
  obind (bZ f.1.v) λG=>
  obind (aK x0 G) λg=>
  some (g,f.2)
 )
def aF(rec:Rn->Nd->(List (C × Bool))->Option ((Gt) × List (C × Bool))) (x0:Rn) (g:Nd) (m0:List (C × Bool)):Option ((Gt) × List (C × Bool)):=
 aa ((λs4=>
  aJ ((0:Int)<=0/\0<(g.l.length:Int))<|
  aa (gel g.l 0:Nd) λz6=>
  obind (aV rec x0 z6 s4.1) λW=>
  aa (decide (W.1.v.k=4):Bool) λb0=>
  if b0=true then(
   some (W.1,W.2)
  )else(
   aa (decide (W.1.v.n=1):Bool) λb1=>
   if b1=true then(
    aJ ((0:Int)<=1/\1<(g.l.length:Int))<|
    aa (gel g.l 1:Nd) λb2=>
    obind (rec x0 b2 W.2) λY=>
    some (Y.1,Y.2)
   )else(
    aa (decide ((g.l.length:Int)=3):Bool) λb3=>
    if b3=true then(
     aJ ((0:Int)<=2/\2<(g.l.length:Int))<|
     aa (gel g.l 2:Nd) λb4=>
     obind (rec x0 b4 W.2) λa1=>
     some (a1.1,a1.2)
    )else(
     obind (bu false) λb5=>
     obind (aK x0 b5) λb6=>
     some (b6,W.2)
    )
   )
  )
  ):((List (C × Bool)) × Int × Int × (List UInt8) × Int × Int × Int)->Option ((Gt) × List (C × Bool))) λJ4=>
 aa (decide (g.op=2):Bool) λb7=>
 if b7=true then(
  aJ ((0:Int)<=0/\0<(g.l.length:Int))<|
  aa (gel g.l 0:Nd) λbb=>
  obind (rec x0 bb m0) λG=>
  aa (!decide (G.1.v.k=4):Bool) λbk=>
  if bk=true then(
   some (G.1,G.2)
  )else(
   aJ ((0:Int)<=1/\1<(g.l.length:Int))<|
   aa (gel g.l 1:Nd) λbq=>
   obind (rec x0 bq G.2) λa6=>
   some (a6.1,a6.2)
  )
 )else(
  aa ((λbs=>
   if bs=true then(
    aa ((λc6=>
     aa (decide (g.op=3):Bool) λc7=>
     obind (bu c7) λc8=>
     obind (aK x0 c8) λcc=>
     some (cc,c6.1)
     ):((List (C × Bool)) × Int × Int × (List UInt8) × Int × Int × Int)->Option ((Gt) × List (C × Bool))) λch=>
    aa (λ(cp:(Int × (List (C × Bool)) × Int × Int × (List UInt8) × Int × Int × Int)->Option ((Gt) × List (C × Bool))) (f:Int × (List (C × Bool)) × Int × Int × (List UInt8) × Int × Int × Int)=>
     aa (decide (f.1<(g.l.length:Int)):Bool) λct=>
     if ct=true then(
      aJ ((0:Int)<=f.1/\f.1<(g.l.length:Int))<|
      aa (gel g.l f.1:Nd) λcx=>
      obind (aV rec x0 cx f.2.1) λE=>
      aa (decide (E.1.v.k=4):Bool) λcy=>
      aa (decide (E.1.v.n=1):Bool) λda=>
      aa (decide (g.op=4):Bool) λdd=>
      aa (da == dd:Bool) λz72=>
      aa (cy||z72:Bool) λdj=>
      if dj=true then(
       some (E.1,E.2)
      )else(
       aa (IntKind.wrap .i64 (f.1+1):Int) λdn=>
       cp (dn,E.2,f.2.2.1,f.2.2.2.1,f.2.2.2.2.1,f.2.2.2.2.2.1,f.2.2.2.2.2.2.1,f.2.2.2.2.2.2.2)
      )
     )else(
      ch (f.2.1,f.2.2.1,f.2.2.2.1,f.2.2.2.2.1,f.2.2.2.2.2.1,f.2.2.2.2.2.2.1,f.2.2.2.2.2.2.2)
     )
     ) λdv=>
    loopF dv KK (0,m0,0,0,[],0,0,0)
   )else(
    aa (decide (g.op=5):Bool) λdz=>
    if dz=true then(
     aJ ((0:Int)<=0/\0<(g.l.length:Int))<|
     aa (gel g.l 0:Nd) λe0=>
     obind (rec x0 e0 m0) λu=>
     aa (decide (u.1.v.k=4):Bool) λe1=>
     if e1=true then(
      some (u.1,u.2)
     )else(
      obind (b9 u.1.v) λX=>
      aa (decide (X.k=4):Bool) λe2=>
      if e2=true then(
       obind (aK x0 X) λe3=>
       some (e3,u.2)
      )else(
       aa (IntKind.wrap .i64 (Int.tdiv X.n 1000000):Int) λF=>
       aa (decide (1<=F):Bool) λe4=>
       aa (decide (F<(g.l.length:Int)):Bool) λe5=>
       aa (e4&&e5:Bool) λe6=>
       if e6=true then(
        aJ ((0:Int)<=F/\F<(g.l.length:Int))<|
        aa (gel g.l F:Nd) λa7=>
        obind (rec x0 a7 u.2) λH=>
        some (H.1,H.2)
       )else(
        obind (aG (2:Int)) λa8=>
        obind (aK x0 a8) λad=>
        some (ad,u.2)
       )
      )
     )
    )else(
     J4 (m0,0,0,[],0,0,0)
    )
   )
   ):(Bool)->Option ((Gt) × List (C × Bool))) λaf=>
  aa (decide (g.op=3):Bool) λJ=>
  if J=true then(
   af J
  )else(
   aa (decide (g.op=4):Bool) λao=>
   af ao
  )
 )
def cC(rec:Rn->Nd->(List (C × Bool))->Option ((Gt) × List (C × Bool))) (x0:Rn) (X:Nd) (m0:List (C × Bool)):Option ((Gt) × List (C × Bool)):=
 aa ((λs5=>
  obind (iD X.op s5.2.2.2.2.2.2.2) λy8=>
  obind (aK x0 y8) λy9=>
  some (y9,s5.1)
  ):((List (C × Bool)) × Int × Int × (List UInt8) × Int × Int × Int × (List (Arg)))->Option ((Gt) × List (C × Bool))) λJ5=>
 aa (λ(a7:(Int × (List (C × Bool)) × Int × Int × (List UInt8) × Int × Int × Int × (List (Arg)))->Option ((Gt) × List (C × Bool))) (f:Int × (List (C × Bool)) × Int × Int × (List UInt8) × Int × Int × Int × (List (Arg)))=>
  aa (decide (f.1<(X.l.length:Int)):Bool) λa8=>
  if a8=true then(
   aJ ((0:Int)<=f.1/\f.1<(X.l.length:Int))<|
   aa (gel X.l f.1:Nd) λY=>
   obind (eval_Area x0.p Y) λF=>
   aa ((λu=>
    aa ((λE=>
     aJ (f.2.2.2.2.2.2.2.2.length+[(⟨u.2.1,u.2.2.1,E.2.2.2.2.2.2⟩:Arg)].length<=9223372036854775807/\(f.2.2.2.2.2.2.2.2.length+[(⟨u.2.1,u.2.2.1,E.2.2.2.2.2.2⟩:Arg)].length)*40<=140737488355328)<|
     aa (f.2.2.2.2.2.2.2.2++[(⟨u.2.1,u.2.2.1,E.2.2.2.2.2.2⟩:Arg)]:List (Arg)) λad=>
     aa (IntKind.wrap .i64 (f.1+1):Int) λaf=>
     a7 (af,u.1,E.1,E.2.1,E.2.2.1,E.2.2.2.1,E.2.2.2.2.1,E.2.2.2.2.2.1,ad)
     ):(Int × Int × (List UInt8) × Int × Int × Int × (List (V)))->Option ((Gt) × List (C × Bool))) λao=>
    aa (λ(b0:(Int × Int × Int × (List UInt8) × Int × Int × Int × (List (V)))->Option ((Gt) × List (C × Bool))) (g:Int × Int × Int × (List UInt8) × Int × Int × Int × (List (V)))=>
     aa (decide (g.1<(u.2.2.2.length:Int)):Bool) λb1=>
     if b1=true then(
      aJ ((0:Int)<=g.1/\g.1<(u.2.2.2.length:Int))<|
      aa (gel u.2.2.2 g.1:Gt) λG=>
      aa (decide (G.v.k=4):Bool) λa1=>
      obind (if a1=true then fk X.op else some default) λb2=>
      aa (!b2:Bool) λb3=>
      aa (a1&&b3:Bool) λb4=>
      if b4=true then(
       some (G,u.1)
      )else(
       aJ (g.2.2.2.2.2.2.2.length+[G.v].length<=9223372036854775807/\(g.2.2.2.2.2.2.2.length+[G.v].length)*32<=140737488355328)<|
       aa (g.2.2.2.2.2.2.2++[G.v]:List (V)) λb5=>
       aa (IntKind.wrap .i64 (g.1+1):Int) λb6=>
       b0 (b6,g.2.1,g.2.2.1,g.2.2.2.1,g.2.2.2.2.1,g.2.2.2.2.2.1,g.2.2.2.2.2.2.1,b5)
      )
     )else(
      ao (g.2.1,g.2.2.1,g.2.2.2.1,g.2.2.2.2.1,g.2.2.2.2.2.1,g.2.2.2.2.2.2.1,g.2.2.2.2.2.2.2)
     )
     ) λb7=>
    loopF b7 KK (0,f.2.2.1,f.2.2.2.1,f.2.2.2.2.1,f.2.2.2.2.2.1,f.2.2.2.2.2.2.1,f.2.2.2.2.2.2.2.1,([]:List (V)))
    ):((List (C × Bool)) × Bool × Int × (List (Gt)))->Option ((Gt) × List (C × Bool))) λa6=>
   if F.2.2=true then(
    aa (IntKind.wrap .i64 (F.2.1.c-F.1.c):Int) λbb=>
    aa (IntKind.wrap .i64 (bb+1):Int) λbk=>
    obind (hM F.1 F.2.1) λbq=>
    aa (λ(H:(List (C × Bool)) × (List (Gt))) (x:C)=>
     obind (cU x0 x H.1) λJ=>
     aJ (H.2.length+[J.1].length<=9223372036854775807/\(H.2.length+[J.1].length)*56<=140737488355328)<|
     aa (H.2++[J.1]:List (Gt)) λbs=>
     some (J.2,bs)
     ) λc6=>
    obind (gK c6 (f.2.1,([]:List (Gt))) bq) λf70=>
    a6 (f70.1,true,bk,f70.2)
   )else(
    obind (rec x0 Y f.2.1) λW=>
    aJ (([]:List (Gt)).length+[W.1].length<=9223372036854775807/\(([]:List (Gt)).length+[W.1].length)*56<=140737488355328)<|
    aa (([]:List (Gt))++[W.1]:List (Gt)) λc7=>
    a6 (W.2,false,1,c7)
   )
  )else(
   J5 (f.2.1,f.2.2.1,f.2.2.2.1,f.2.2.2.2.1,f.2.2.2.2.2.1,f.2.2.2.2.2.2.1,f.2.2.2.2.2.2.2.1,f.2.2.2.2.2.2.2.2)
  )
  ) λc8=>
 loopF c8 KK (0,m0,0,0,[],0,0,0,([]:List (Arg)))
def aW(rec:Rn->Nd->(List (C × Bool))->Option ((Gt) × List (C × Bool))) (x0:Rn) (f:Nd) (G:List (C × Bool)):Option ((Gt) × List (C × Bool)):=
 aa (decide (f.k=1):Bool) λz5=>
 if z5=true then(
  obind (aK x0 f.v) λy7=>
  some (y7,G)
 )else(
  aa ((λs9=>
   if s9=true then(
    obind (eval_Area x0.p f) λg=>
    aa (!g.2.2:Bool) λa7=>
    if a7=true then(
     obind (aG (4:Int)) λa8=>
     obind (aK x0 a8) λad=>
     some (ad,G)
    )else(
     aa (!((decide (g.1.s=g.2.1.s)&&(decide (g.1.c=g.2.1.c)&&decide (g.1.r=g.2.1.r)))):Bool) λaf=>
     if af=true then(
      obind (aG (2:Int)) λao=>
      obind (aK x0 ao) λb0=>
      some (b0,G)
     )else(
      obind (cU x0 g.1 G) λH=>
      some (H.1,H.2)
     )
    )
   )else(
    aa ((λb1=>
     if b1=true then(
      aJ ((0:Int)<=0/\0<(f.l.length:Int))<|
      aa (gel f.l 0:Nd) λb2=>
      obind (rec x0 b2 G) λu=>
      aa (decide (u.1.v.k=4):Bool) λb3=>
      if b3=true then(
       some (u.1,u.2)
      )else(
       obind (dr f.k u.1.v) λb4=>
       obind (aK x0 b4) λb5=>
       some (b5,u.2)
      )
     )else(
      aa (decide (f.k=7):Bool) λb6=>
      if b6=true then(
       aJ ((0:Int)<=0/\0<(f.l.length:Int))<|
       aa (gel f.l 0:Nd) λb7=>
       obind (rec x0 b7 G) λE=>
       aa (decide (E.1.v.k=4):Bool) λbb=>
       if bb=true then(
        some (E.1,E.2)
       )else(
        aJ ((0:Int)<=1/\1<(f.l.length:Int))<|
        aa (gel f.l 1:Nd) λbk=>
        obind (rec x0 bk E.2) λF=>
        aa (decide (F.1.v.k=4):Bool) λbq=>
        if bq=true then(
         some (F.1,F.2)
        )else(
         obind (eH f.op E.1.v F.1.v) λbs=>
         obind (aK x0 bs) λc6=>
         some (c6,F.2)
        )
       )
      )else(
       aa (decide (f.op<=5):Bool) λc7=>
       if c7=true then(
        obind (aF rec x0 f G) λJ=>
        some (J.1,J.2)
       )else(
        obind (cC rec x0 f G) λW=>
        some (W.1,W.2)
       )
      )
     )
     ):(Bool)->Option ((Gt) × List (C × Bool))) λX=>
    aa (decide (f.k=5):Bool) λY=>
    if Y=true then(
     X Y
    )else(
     aa (decide (f.k=6):Bool) λc8=>
     X c8
    )
   )
   ):(Bool)->Option ((Gt) × List (C × Bool))) λJ9=>
  aa (decide (f.k=2):Bool) λa1=>
  if a1=true then(
   J9 a1
  )else(
   aa (decide (f.k=3):Bool) λa6=>
   if a6=true then(
    J9 a6
   )else(
    aa (decide (f.k=4):Bool) λcc=>
    J9 cc
   )
  )
 )
def aM:Nat->Rn->Nd->(List (C × Bool))->Option ((Gt) × List (C × Bool))
 |0,_,_,_=>none
 |k+1,x0,f,g=>aW (aM k) x0 f g
def dV(x0:Nd) (F:C) (G:List V):Option (Rs):=
 obind (aM KK (⟨G,F⟩:Rn) x0 ([]:List (C × Bool))) λf=>
 aa ((λg=>
  aJ (f.2.length<4611686018427387904/\f.2.length*24<=140737488355328)<|
  some (⟨f.1.v,(⟨g.1,g.2.1,g.2.2⟩:C),(uo f.2)⟩:Rs)
  ):(Int × Int × Int)->Option (Rs)) λu=>
 aa (decide (f.1.v.k=4):Bool) λE=>
 if E=true then(
  u (f.1.c.s,f.1.c.c,f.1.c.r)
 )else(
  u (0,0,0)
 )
def fg(x0:C):Option (Bool):=
 aa (decide (0<=x0.s):Bool) λE=>
 aa (decide (x0.s<3):Bool) λF=>
 aa (E&&F:Bool) λG=>
 aa (decide (0<=x0.c):Bool) λH=>
 aa (G&&H:Bool) λJ=>
 aa (decide (x0.c<26):Bool) λW=>
 aa (J&&W:Bool) λX=>
 aa (decide (0<=x0.r):Bool) λY=>
 aa (X&&Y:Bool) λf=>
 aa (decide (x0.r<99):Bool) λg=>
 aa (f&&g:Bool) λu=>
 some u
def eO(x0:Nd):Option (Bool):=
 aa ((λs5=>
  if s5=true then(
   aa (decide ((x0.l.length:Int)=1):Bool) λz7=>
   some z7
  )else(
   aa (decide (x0.k=7):Bool) λz8=>
   if z8=true then(
    aa (decide ((x0.l.length:Int)=2):Bool) λG=>
    aa (decide (1<=x0.op):Bool) λH=>
    aa (G&&H:Bool) λJ=>
    aa (decide (x0.op<=11):Bool) λW=>
    aa (J&&W:Bool) λX=>
    some X
   )else(
    aa (decide (x0.k=8):Bool) λY=>
    if Y=true then(
     obind (cn x0.op (x0.l.length:Int)) λa1=>
     some a1
    )else(
     aa (decide (x0.k=1):Bool) λa6=>
     if a6=true then(
      aa (decide ((x0.l.length:Int)=0):Bool) λf=>
      obind (if f=true then co x0.v else some default) λa7=>
      aa (f&&a7:Bool) λa8=>
      some a8
     )else(
      aa (decide (x0.k=2):Bool) λad=>
      if ad=true then(
       aa (decide ((x0.l.length:Int)=0):Bool) λg=>
       obind (if g=true then fg x0.a.c else some default) λaf=>
       aa (g&&af:Bool) λao=>
       some ao
      )else(
       aa (decide (x0.k=3):Bool) λb0=>
       if b0=true then(
        aa (decide ((x0.l.length:Int)=0):Bool) λu=>
        obind (if u=true then fg x0.a.c else some default) λb1=>
        aa (u&&b1:Bool) λE=>
        obind (if E=true then fg x0.b.c else some default) λb2=>
        aa (E&&b2:Bool) λb3=>
        aa (decide (x0.a.c.s=x0.b.c.s):Bool) λb4=>
        aa (b3&&b4:Bool) λb5=>
        some b5
       )else(
        aa (decide (x0.k=4):Bool) λb6=>
        if b6=true then(
         none
        )else(
         some false
        )
       )
      )
     )
    )
   )
  )
  ):(Bool)->Option (Bool)) λJ5=>
 aa (decide (x0.k=5):Bool) λF=>
 if F=true then(
  J5 F
 )else(
  aa (decide (x0.k=6):Bool) λb7=>
  J5 b7
 )
def gy(rec:Nd->Int->Option (Bool)) (x0:Nd) (X:Int):Option (Bool):=
 aa (decide (X=0):Bool) λY=>
 obind (if(!Y)=true then eO x0 else some default) λy4=>
 aa (!y4:Bool) λz5=>
 aa (Y||z5:Bool) λz6=>
 if z6=true then(
  some false
 )else(
  aa ((λs9=>
   some true
   ):(Unit)->Option (Bool)) λJ9=>
  aa (λ(g:(Int)->Option (Bool)) (f:Int)=>
   aa (decide (f<(x0.l.length:Int)):Bool) λu=>
   if u=true then(
    aJ ((0:Int)<=f/\f<(x0.l.length:Int))<|
    aa (gel x0.l f:Nd) λE=>
    aa (IntKind.wrap .i64 (X-1):Int) λF=>
    obind (rec E F) λG=>
    aa (!G:Bool) λH=>
    if H=true then(
     some false
    )else(
     aa (IntKind.wrap .i64 (f+1):Int) λJ=>
     g J
    )
   )else(
    J9 ()
   )
   ) λW=>
  loopF W KK 0
 )
def gP:Nat->Nd->Int->Option (Bool)
 |0,_,_=>none
 |k+1,x0,f=>gy (gP k) x0 f
def jh(x0:Nd):Option (Bool):=
 obind (gP KK x0 (200:Int)) λf=>
 some f
def iB(rec:Nd->Option (Int)) (x0:Nd):Option (Int):=
 aa ((λG=>
  some G
  ):(Int)->Option (Int)) λH=>
 aa (λ(J:(Int × Int)->Option (Int)) (f:Int × Int)=>
  aa (decide (f.2<(x0.l.length:Int)):Bool) λW=>
  if W=true then(
   aJ ((0:Int)<=f.2/\f.2<(x0.l.length:Int))<|
   aa (gel x0.l f.2:Nd) λg=>
   obind (rec g) λu=>
   aa (IntKind.wrap .i64 (f.1+u):Int) λE=>
   aa (IntKind.wrap .i64 (f.2+1):Int) λF=>
   J (E,F)
  )else(
   H f.1
  )
  ) λX=>
 loopF X KK (1,0)
def gQ:Nat->Nd->Option (Int)
 |0,_=>none
 |k+1,x0=>iB (gQ k) x0
def iC(rec:Nd->Nd->Option (Bool)) (x0 f:Nd):Option (Bool):=
 aa (!decide (x0.k=f.k):Bool) λz4=>
 aa (!decide (x0.op=f.op):Bool) λz5=>
 aa (z4||z5:Bool) λz6=>
 aa (!((decide (x0.v.k=f.v.k)&&(decide (x0.v.n=f.v.n)&&decide (x0.v.s=f.v.s)))):Bool) λz7=>
 aa (z6||z7:Bool) λz8=>
 aa (!((decide (x0.a.c.s=f.a.c.s)&&(decide (x0.a.c.c=f.a.c.c)&&(decide (x0.a.c.r=f.a.c.r)&&(decide (x0.a.ac=f.a.ac)&&decide (x0.a.ar=f.a.ar)))))):Bool) λz9=>
 aa (z8||z9:Bool) λu=>
 aa (!((decide (x0.b.c.s=f.b.c.s)&&(decide (x0.b.c.c=f.b.c.c)&&(decide (x0.b.c.r=f.b.c.r)&&(decide (x0.b.ac=f.b.ac)&&decide (x0.b.ar=f.b.ar)))))):Bool) λz11=>
 aa (u||z11:Bool) λE=>
 aa (!decide (x0.nm=f.nm):Bool) λz13=>
 aa (E||z13:Bool) λF=>
 aa (!decide ((x0.l.length:Int)=(f.l.length:Int)):Bool) λz15=>
 aa (F||z15:Bool) λG=>
 if G=true then(
  some false
 )else(
  aa ((λad=>
   some true
   ):(Unit)->Option (Bool)) λH=>
  aa (λ(J:(Int)->Option (Bool)) (g:Int)=>
   aa (decide (g<(x0.l.length:Int)):Bool) λW=>
   if W=true then(
    aJ ((0:Int)<=g/\g<(x0.l.length:Int))<|
    aa (gel x0.l g:Nd) λX=>
    aJ ((0:Int)<=g/\g<(f.l.length:Int))<|
    aa (gel f.l g:Nd) λY=>
    obind (rec X Y) λa1=>
    aa (!a1:Bool) λa6=>
    if a6=true then(
     some false
    )else(
     aa (IntKind.wrap .i64 (g+1):Int) λa7=>
     J a7
    )
   )else(
    H ()
   )
   ) λa8=>
  loopF a8 KK 0
 )
def jc:Nat->Nd->Nd->Option (Bool)
 |0,_,_=>none
 |k+1,x0,f=>iC (jc k) x0 f
def wh:List UInt8:=[60,62,32,60,61,32,62,61,32,43,32,45,32,42,32,47,32,38,32,61,32,60,32,62,32,37,32,40,32,41,32,44,32,58]
def js(x0:Int):Option (Bool):=
 aa (decide (65<=x0):Bool) λu=>
 aa (decide (x0<=90):Bool) λE=>
 aa (u&&E:Bool) λF=>
 aa (decide (48<=x0):Bool) λG=>
 aa (decide (x0<=57):Bool) λH=>
 aa (G&&H:Bool) λz6=>
 aa (F||z6:Bool) λJ=>
 aa (decide (x0=36):Bool) λz8=>
 aa (J||z8:Bool) λW=>
 aa (decide (x0=33):Bool) λz10=>
 aa (W||z10:Bool) λf=>
 aa (decide (x0=95):Bool) λz12=>
 aa (f||z12:Bool) λg=>
 some g
def kD(x0:List UInt8) (G:Int->Option (Bool)):Option (Int):=
 aa ((λY=>
  some (x0.length:Int)
  ):(Unit)->Option (Int)) λH=>
 aa (λ(J:(Int)->Option (Int)) (f:Int)=>
  aa (decide (f<(x0.length:Int)):Bool) λW=>
  if W=true then(
   aJ ((0:Int)<=f/\f<(x0.length:Int))<|
   aa (bt x0 f:Int) λg=>
   obind (G g) λu=>
   aa (!u:Bool) λE=>
   if E=true then(
    some f
   )else(
    aa (IntKind.wrap .i64 (f+1):Int) λF=>
    J F
   )
  )else(
   H ()
  )
  ) λX=>
 loopF X KK 0
def kj(x0:List UInt8):Option ((List UInt8) × Int):=
 aa (λ(n3:((List UInt8) × Int)->Option ((List UInt8) × Int)) (f:(List UInt8) × Int)=>
  aa (decide ((x0.length:Int)<=f.2):Bool) λz6=>
  if z6=true then(
   some ([],0)
  )else(
   aJ ((0:Int)<=f.2/\f.2<(x0.length:Int))<|
   aa (bt x0 f.2:Int) λG=>
   aa (!decide (G=34):Bool) λH=>
   if H=true then(
    aa (IntKind.wrap .i64 (f.2+1):Int) λg=>
    aJ ((0:Int)<=f.2/\f.2<=g/\g<=(x0.length:Int))<|
    aa (i_ x0 f.2 g:List UInt8) λE=>
    aJ (f.1.length+E.length<=9223372036854775807)<|
    aa (f.1++E:List UInt8) λJ=>
    aa (IntKind.wrap .i64 (f.2+1):Int) λW=>
    n3 (J,W)
   )else(
    aa (IntKind.wrap .i64 (f.2+1):Int) λX=>
    aa (decide (X<(x0.length:Int)):Bool) λF=>
    aa (IntKind.wrap .i64 (f.2+1):Int) λu=>
    aJ (F=true->(0:Int)<=u/\u<(x0.length:Int))<|
    aa (bt x0 u:Int) λY=>
    aa (decide (Y=34):Bool) λa1=>
    aa (F&&a1:Bool) λa6=>
    if a6=true then(
     aJ (f.1.length+([34]:List UInt8).length<=9223372036854775807)<|
     aa (f.1++([34]:List UInt8):List UInt8) λa7=>
     aa (IntKind.wrap .i64 (f.2+2):Int) λa8=>
     n3 (a7,a8)
    )else(
     aa (IntKind.wrap .i64 (f.2+1):Int) λad=>
     some (f.1,ad)
    )
   )
  )
  ) λB3=>
 loopF B3 KK ([],1)
def l8(x0:Int):Option (Bool):=
 aa (decide (48<=x0):Bool) λf=>
 aa (decide (x0<=57):Bool) λg=>
 aa (f&&g:Bool) λu=>
 aa (decide (x0=46):Bool) λz4=>
 aa (u||z4:Bool) λE=>
 some E
def eM(x0:List UInt8):Option (Tk × Int):=
 aJ ((0:Int)<=0/\0<(x0.length:Int))<|
 aa (bt x0 0:Int) λF=>
 aa ((λX=>
  aa ((λs7=>
   some ((⟨0,[],0⟩:Tk),0)
   ):(Int × (List UInt8) × Int)->Option (Tk × Int)) λJ7=>
  aJ (wh.length<4294967281/\(wh.all λb=>decide (b.toNat<128))=true)<|
  aa (Lib.fields wh:(List (List UInt8))) λG=>
  aa (λ(Y:(Int × Int × (List UInt8) × Int)->Option (Tk × Int)) (f:Int × Int × (List UInt8) × Int)=>
   aa (decide (f.1<(G.length:Int)):Bool) λa1=>
   if a1=true then(
    aJ ((0:Int)<=f.1/\f.1<(G.length:Int))<|
    aa (gel G f.1:List UInt8) λH=>
    aa (Lib.hasPrefix x0 H:Bool) λa6=>
    if a6=true then(
     some ((⟨4,H,0⟩:Tk),(H.length:Int))
    )else(
     aa (IntKind.wrap .i64 (f.1+1):Int) λa7=>
     Y (a7,f.2.1,f.2.2.1,f.2.2.2)
    )
   )else(
    J7 (f.2.1,f.2.2.1,f.2.2.2)
   )
   ) λa8=>
  loopF a8 KK (0,X.1,X.2.1,X.2.2)
  ):(Int × (List UInt8) × Int)->Option (Tk × Int)) λJ5=>
 aa (decide (48<=F):Bool) λad=>
 aa (decide (F<=57):Bool) λaf=>
 aa (ad&&af:Bool) λao=>
 aa (decide (F=46):Bool) λz28=>
 aa (ao||z28:Bool) λb0=>
 if b0=true then(
  obind (kD x0 (λb1=>l8 b1)) λu=>
  aJ ((0:Int)<=u/\u<=(x0.length:Int))<|
  aa (i_ x0 0 u:List UInt8) λb2=>
  some ((⟨1,b2,0⟩:Tk),u)
 )else(
  aa (decide (F=34):Bool) λb3=>
  if b3=true then(
   obind (kj x0) λW=>
   some ((⟨2,W.1,0⟩:Tk),W.2)
  )else(
   aa (decide (F=35):Bool) λb4=>
   if b4=true then(
    aa ((λch=>
     some ((⟨0,[],0⟩:Tk),0)
     ):(Int × (List UInt8) × Int)->Option (Tk × Int)) λb5=>
    aa (λ(b6:(Int × Int × (List UInt8) × Int)->Option (Tk × Int)) (g:Int × Int × (List UInt8) × Int)=>
     aa (decide (g.1<=7):Bool) λb7=>
     if b7=true then(
      obind (dK g.1) λJ=>
      aa (Lib.hasPrefix x0 J:Bool) λbb=>
      if bb=true then(
       some ((⟨5,J,0⟩:Tk),(J.length:Int))
      )else(
       aa (IntKind.wrap .i64 (g.1+1):Int) λbk=>
       b6 (bk,g.2.1,g.2.2.1,g.2.2.2)
      )
     )else(
      b5 (g.2.1,g.2.2.1,g.2.2.2)
     )
     ) λbq=>
    loopF bq KK (1,0,[],0)
   )else(
    obind (js F) λbs=>
    aa (!decide (F=33):Bool) λc6=>
    aa (bs&&c6:Bool) λc7=>
    if c7=true then(
     obind (kD x0 (λc8=>js c8)) λE=>
     aJ ((0:Int)<=E/\E<=(x0.length:Int))<|
     aa (i_ x0 0 E:List UInt8) λcc=>
     some ((⟨3,cc,0⟩:Tk),E)
    )else(
     J5 (0,[],0)
    )
   )
  )
 )
def i6(x0:List UInt8):Option ((List (Tk)) × Int × Int):=
 aa (decide (200<(x0.length:Int)):Bool) λz2=>
 if z2=true then(
  some ([],0,4)
 )else(
  aa ((λs5=>
   some (s5,0,0)
   ):((List (Tk)))->Option ((List (Tk)) × Int × Int)) λJ5=>
  aa (λ(Y:(Int × (List (Tk)))->Option ((List (Tk)) × Int × Int)) (f:Int × (List (Tk)))=>
   aa (decide (f.1<(x0.length:Int)):Bool) λu=>
   if u=true then(
    aJ ((0:Int)<=f.1/\f.1<(x0.length:Int))<|
    aa (bt x0 f.1:Int) λE=>
    aa (decide (E=32):Bool) λF=>
    if F=true then(
     aa (IntKind.wrap .i64 (f.1+1):Int) λG=>
     Y (G,f.2)
    )else(
     aJ ((0:Int)<=f.1/\f.1<=(x0.length:Int))<|
     aa (i_ x0 f.1 x0.length:List UInt8) λH=>
     obind (eM H) λg=>
     aa (decide (g.2=0):Bool) λJ=>
     if J=true then(
      some ([],f.1,1)
     )else(
      aJ (f.2.length+[(⟨g.1.k,g.1.s,f.1⟩:Tk)].length<=9223372036854775807/\(f.2.length+[(⟨g.1.k,g.1.s,f.1⟩:Tk)].length)*32<=140737488355328)<|
      aa (f.2++[(⟨g.1.k,g.1.s,f.1⟩:Tk)]:List (Tk)) λW=>
      aa (IntKind.wrap .i64 (f.1+g.2):Int) λX=>
      Y (X,W)
     )
    )
   )else(
    J5 f.2
   )
   ) λB8=>
  loopF B8 KK (0,([]:List (Tk)))
 )
def aN(x0:List Tk) (F G H:Int) (J:List UInt8):Option ((Bool) × (List Tk)):=
 aa (decide ((x0.length:Int)=0):Bool) λu=>
 aJ ((!u)=true->(0:Int)<=0/\0<(x0.length:Int))<|
 aa (gel x0 0:Tk) λW=>
 aa (!decide (W.k=4):Bool) λz5=>
 aa (u||z5:Bool) λE=>
 aJ ((!E)=true->(0:Int)<=0/\0<(x0.length:Int))<|
 aa (gel x0 0:Tk) λX=>
 aa (!decide (X.s=J):Bool) λz9=>
 aa (E||z9:Bool) λf=>
 if f=true then(
  some (false,x0)
 )else(
  aJ ((0:Int)<=(1:Int)/\(1:Int)<=(x0.length:Int)/\(x0.length:Int)<=(x0.length:Int))<|
  aa (fd x0 (1:Int) (x0.length:Int):List (Tk)) λg=>
  some (true,g)
 )
def be(x0:List Tk) (g u f:Int) (G:List Tk->Int->Int->Int->Option ((Nd) × (List Tk))):Option ((Nd) × (List Tk)):=
 aa (decide (f=64):Bool) λH=>
 if H=true then(
  none
 )else(
  aa (IntKind.wrap .i64 (f+1):Int) λE=>
  obind (G x0 g u E) λF=>
  aa (IntKind.wrap .i64 (E-1):Int) λJ=>
  aJ (J=f)<|
  some (F.1,F.2)
 )
def qf:List UInt8:=[43,32,45,32,42,32,47,32,38,32,61,32,60,62,32,60,32,60,61,32,62,32,62,61]
def bV(x0:List Tk) (b5 b6 b7 J:Int):Option ((Int) × (List Tk)):=
 aa (decide ((x0.length:Int)=0):Bool) λz2=>
 aJ ((!z2)=true->(0:Int)<=0/\0<(x0.length:Int))<|
 aa (gel x0 0:Tk) λz4=>
 aa (!decide (z4.k=4):Bool) λz5=>
 aa (z2||z5:Bool) λz6=>
 if z6=true then(
  some (0,x0)
 )else(
  aJ ((0:Int)<=0/\0<(x0.length:Int))<|
  aa (gel x0 0:Tk) λz9=>
  aa ((λW=>
   some (0,W)
   ):((List (Tk)))->Option ((Int) × (List Tk))) λX=>
  aJ ((0:Int)<=J/\J<(4:Int))<|
  aa (gel levelsL J:List UInt8) λu=>
  aJ (u.length<4294967281/\(u.all λb=>decide (b.toNat<128))=true)<|
  aa (Lib.fields u:(List (List UInt8))) λE=>
  aa (λ(G:(Int × (List (Tk)))->Option ((Int) × (List Tk))) (f:Int × (List (Tk)))=>
   aa (decide (f.1<(E.length:Int)):Bool) λY=>
   if Y=true then(
    aJ ((0:Int)<=f.1/\f.1<(E.length:Int))<|
    aa (gel E f.1:List UInt8) λa1=>
    aa (!decide (a1=z9.s):Bool) λa6=>
    if a6=true then(
     aa (IntKind.wrap .i64 (f.1+1):Int) λa7=>
     G (a7,f.2)
    )else(
     aJ ((0:Int)<=(1:Int)/\(1:Int)<=(f.2.length:Int)/\(f.2.length:Int)<=(f.2.length:Int))<|
     aa (fd f.2 (1:Int) (f.2.length:Int):List (Tk)) λH=>
     aJ (qf.length<4294967281/\(qf.all λb=>decide (b.toNat<128))=true)<|
     aa (Lib.fields qf:(List (List UInt8))) λF=>
     aa (λ(a8:(Int)->Option ((Int) × (List Tk))) (g:Int)=>
      aa (decide (g<(F.length:Int)):Bool) λad=>
      if ad=true then(
       aJ ((0:Int)<=g/\g<(F.length:Int))<|
       aa (gel F g:List UInt8) λaf=>
       aa (decide (af=z9.s):Bool) λao=>
       if ao=true then(
        aa (IntKind.wrap .i64 (g+1):Int) λb0=>
        some (b0,H)
       )else(
        aa (IntKind.wrap .i64 (g+1):Int) λb1=>
        a8 b1
       )
      )else(
       aa (IntKind.wrap .i64 (f.1+1):Int) λb2=>
       G (b2,H)
      )
      ) λb3=>
     loopF b3 KK 0
    )
   )else(
    X f.2
   )
   ) λb4=>
  loopF b4 KK (0,x0)
 )
def bF(rec:(List Tk)->Int->Int->Int->Int->Option ((Nd) × (List Tk))) (x0:List Tk) (f:Int) (g:Int) (u:Int):Option ((Nd) × (List Tk)):=
 obind (rec x0 f g u (0:Int)) λE=>
 some (E.1,E.2)
def cw(rec:(List Tk)->Int->Int->Int->Int->Option ((Nd) × (List Tk))) (x0:List Tk) (f:Int) (g:Int) (u:Int):Option ((Nd) × (List Tk)):=
 obind (rec x0 f g u (0:Int)) λE=>
 some (E.1,E.2)
def fX(x0:List UInt8):Option (Int × Bool):=
 aa ((λY=>
  some (0,false)
  ):(Unit)->Option (Int × Bool)) λJ=>
 aJ (ri.length<4294967281/\(ri.all λb=>decide (b.toNat<128))=true)<|
 aa (Lib.fields ri:(List (List UInt8))) λg=>
 aa (λ(W:(Int)->Option (Int × Bool)) (f:Int)=>
  aa (decide (f<(g.length:Int)):Bool) λu=>
  if u=true then(
   aJ ((0:Int)<=f/\f<(g.length:Int))<|
   aa (gel g f:List UInt8) λE=>
   aa (decide (E=x0):Bool) λF=>
   if F=true then(
    aa (IntKind.wrap .i64 (f+1):Int) λG=>
    some (G,true)
   )else(
    aa (IntKind.wrap .i64 (f+1):Int) λH=>
    W H
   )
  )else(
   J ()
  )
  ) λX=>
 loopF X KK 0
def cG(x0:List UInt8) (x1:Int):Option (Rf × Bool):=
 aa ((λs4=>
  aa ((Lib.trimPrefix s4.1 ([36]:List UInt8),Lib.hasPrefix s4.1 ([36]:List UInt8)):(List UInt8) × Bool) λu=>
  aa (decide (u.1=[]):Bool) λz8=>
  aJ ((!z8)=true->(0:Int)<=0/\0<(u.1.length:Int))<|
  aa (bt u.1 0:Int) λa6=>
  aa (decide (a6<65):Bool) λz11=>
  aa (z8||z11:Bool) λF=>
  aJ ((!F)=true->(0:Int)<=0/\0<(u.1.length:Int))<|
  aa (bt u.1 0:Int) λa7=>
  aa (decide (90<a7):Bool) λz15=>
  aa (F||z15:Bool) λa8=>
  if a8=true then(
   none
  )else(
   aJ ((0:Int)<=0/\0<(u.1.length:Int))<|
   aa (bt u.1 0:Int) λad=>
   aa (IntKind.wrap .u8 (ad-65):Int) λaf=>
   aa (IntKind.wrap .i64 af:Int) λG=>
   aJ ((0:Int)<=1/\1<=(u.1.length:Int))<|
   aa (i_ u.1 1 u.1.length:List UInt8) λH=>
   aa ((Lib.trimPrefix H ([36]:List UInt8),Lib.hasPrefix H ([36]:List UInt8)):(List UInt8) × Bool) λE=>
   aJ (E.1.length<=18)<|
   aa (Lib.atoi E.1:Option Int) λg=>
   aa (g.isNone:Bool) λJ=>
   aJ ((!J)=true->(0:Int)<=(g.getD 0)/\(g.getD 0)<100)<|
   aa (Lib.itoa (g.getD 0):(List UInt8)) λao=>
   aa (!decide (ao=E.1):Bool) λz34=>
   aa (J||z34:Bool) λb0=>
   aa (decide ((g.getD 0)<1):Bool) λz36=>
   aa (b0||z36:Bool) λb1=>
   aa (decide (99<(g.getD 0)):Bool) λz38=>
   aa (b1||z38:Bool) λW=>
   obind (if(!W)=true then fg (⟨s4.2,G,0⟩:C)else some default) λb2=>
   aa (!b2:Bool) λz41=>
   aa (W||z41:Bool) λb3=>
   if b3=true then(
    some ((⟨(⟨0,0,0⟩:C),false,false⟩:Rf),false)
   )else(
    aa (IntKind.wrap .i64 ((g.getD 0)-1):Int) λb4=>
    some ((⟨(⟨s4.2,G,b4⟩:C),u.2,E.2⟩:Rf),true)
   )
  )
  ):((List UInt8) × Int)->Option (Rf × Bool)) λJ4=>
 aJ (x0.length<4294967281)<|
 aa (Lib.cut x0 ([33]:List UInt8):(List UInt8) × (List UInt8) × Bool) λf=>
 if f.2.2=true then(
  aa (!decide ((f.1.length:Int)=2):Bool) λX=>
  aJ ((!X)=true->(0:Int)<=0/\0<(f.1.length:Int))<|
  aa (bt f.1 0:Int) λb5=>
  aa (!decide (b5=83):Bool) λz53=>
  aa (X||z53:Bool) λY=>
  aJ ((!Y)=true->(0:Int)<=1/\1<(f.1.length:Int))<|
  aa (bt f.1 1:Int) λb6=>
  aa (decide (b6<49):Bool) λz57=>
  aa (Y||z57:Bool) λa1=>
  aJ ((!a1)=true->(0:Int)<=1/\1<(f.1.length:Int))<|
  aa (bt f.1 1:Int) λb7=>
  aa (decide (52<=b7):Bool) λz61=>
  aa (a1||z61:Bool) λbb=>
  if bb=true then(
   none
  )else(
   aJ ((0:Int)<=1/\1<(f.1.length:Int))<|
   aa (bt f.1 1:Int) λbk=>
   aa (IntKind.wrap .u8 (bk-49):Int) λbq=>
   aa (IntKind.wrap .i64 bq:Int) λbs=>
   J4 (f.2.1,bs)
  )
 )else(
  J4 (x0,x1)
 )
def ce(x0:List Tk) (f g u:Int) (E:List UInt8):Option (Unit × (List Tk)):=
 obind (aN x0 f g u E) λy1=>
 aa (!y1.1:Bool) λF=>
 if F=true then(
  none
 )else(
  some ((),y1.2)
 )
def dc(x0:List Tk) (G H J:Int) (x1:Rf):Option ((Nd) × (List Tk)):=
 obind (aN x0 G H J ([58]:List UInt8)) λE=>
 aa (!E.1:Bool) λz6=>
 if z6=true then(
  obind (l6 x1) λy8=>
  some (y8,E.2)
 )else(
  aa ((λg=>
   aJ ((0:Int)<=0/\0<(g.length:Int))<|
   aa (gel g 0:Tk) λW=>
   obind (cG W.s x1.c.s) λu=>
   aa ((λf=>
    aJ ((0:Int)<=(1:Int)/\(1:Int)<=(f.length:Int)/\(f.length:Int)<=(f.length:Int))<|
    aa (fd f (1:Int) (f.length:Int):List (Tk)) λX=>
    obind (lW x1 u.1) λY=>
    some (Y,X)
    ):((List (Tk)))->Option ((Nd) × (List Tk))) λa1=>
   aa (!u.2:Bool) λa6=>
   aa (!decide (u.1.c.s=x1.c.s):Bool) λz26=>
   aa (a6||z26:Bool) λa7=>
   if a7=true then(
    none
   )else(
    a1 g
   )
   ):((List (Tk)))->Option ((Nd) × (List Tk))) λa8=>
  aa (decide ((E.2.length:Int)=0):Bool) λF=>
  aJ ((!F)=true->(0:Int)<=0/\0<(E.2.length:Int))<|
  aa (gel E.2 0:Tk) λad=>
  aa (!decide (ad.k=3):Bool) λz32=>
  aa (F||z32:Bool) λaf=>
  if af=true then(
   none
  )else(
   a8 E.2
  )
 )
def cq(rec:(List Tk)->Int->Int->Int->Int->Option ((Nd) × (List Tk))) (x0:List Tk) (F:Int) (G:Int) (H:Int) (x1:Tk):Option ((Nd) × (List Tk)):=
 obind (eD x1.s) λW=>
 aa (decide (W=0):Bool) λz6=>
 aa (!decide (x1.s=([66,76,65,78,75]:List UInt8)):Bool) λz7=>
 aa (z6&&z7:Bool) λz8=>
 if z8=true then(
  none
 )else(
  aJ ((0:Int)<=(2:Int)/\(2:Int)<=(x0.length:Int)/\(x0.length:Int)<=(x0.length:Int))<|
  aa (fd x0 (2:Int) (x0.length:Int):List (Tk)) λX=>
  aa ((λg=>
   aa (decide (W=0):Bool) λY=>
   aa (decide ((g.2.length:Int)=0):Bool) λa1=>
   aa (Y&&a1:Bool) λa6=>
   if a6=true then(
    obind (bg (⟨0,0,[]⟩:V)) λa7=>
    some (a7,g.1)
   )else(
    obind (cn W (g.2.length:Int)) λa8=>
    aa (!a8:Bool) λad=>
    if ad=true then(
     none
    )else(
     obind (g9 W g.2) λaf=>
     some (af,g.1)
    )
   )
   ):((List (Tk)) × (List (Nd)))->Option ((Nd) × (List Tk))) λao=>
  aa (λ(b0:((List (Tk)) × (List (Nd)))->Option ((Nd) × (List Tk))) (f:(List (Tk)) × (List (Nd)))=>
   obind (aN f.1 F G H ([41]:List UInt8)) λu=>
   aa (!u.1:Bool) λb1=>
   if b1=true then(
    aa ((λb2=>
     obind (be b2 F G H (λa b c e=>cw rec a b c e)) λE=>
     aJ (f.2.length+[E.1].length<=9223372036854775807/\(f.2.length+[E.1].length)*152<=140737488355328)<|
     aa (f.2++[E.1]:List (Nd)) λb3=>
     b0 (E.2,b3)
     ):((List (Tk)))->Option ((Nd) × (List Tk))) λJ=>
    aa (decide (0<(f.2.length:Int)):Bool) λb4=>
    if b4=true then(
     obind (ce u.2 F G H ([44]:List UInt8)) λb5=>
     J b5.2
    )else(
     J u.2
    )
   )else(
    ao (u.2,f.2)
   )
   ) λb6=>
  loopF b6 KK (X,([]:List (Nd)))
 )
def cf(rec:(List Tk)->Int->Int->Int->Int->Option ((Nd) × (List Tk))) (x0:List Tk) (f:Int) (g:Int) (u:Int) (E:Tk):Option ((Nd) × (List Tk)):=
 aa (decide (1<(x0.length:Int)):Bool) λz4=>
 aJ (z4=true->(0:Int)<=1/\1<(x0.length:Int))<|
 aa (gel x0 1:Tk) λz6=>
 aa (decide (z6.k=4):Bool) λz7=>
 aa (z4&&z7:Bool) λz8=>
 aJ (z8=true->(0:Int)<=1/\1<(x0.length:Int))<|
 aa (gel x0 1:Tk) λJ=>
 aa (decide (J.s=([40]:List UInt8)):Bool) λW=>
 aa (z8&&W:Bool) λX=>
 if X=true then(
  obind (cq rec x0 f g u E) λF=>
  some (F.1,F.2)
 )else(
  obind (cG E.s f) λG=>
  if G.2=true then(
   aJ ((0:Int)<=(1:Int)/\(1:Int)<=(x0.length:Int)/\(x0.length:Int)<=(x0.length:Int))<|
   aa (fd x0 (1:Int) (x0.length:Int):List (Tk)) λY=>
   obind (dc Y f g u G.1) λH=>
   some (H.1,H.2)
  )else(
   aa (decide (E.s=([84,82,85,69]:List UInt8)):Bool) λa1=>
   aa (decide (E.s=([70,65,76,83,69]:List UInt8)):Bool) λz27=>
   aa (a1||z27:Bool) λa6=>
   if a6=true then(
    aJ ((0:Int)<=(1:Int)/\(1:Int)<=(x0.length:Int)/\(x0.length:Int)<=(x0.length:Int))<|
    aa (fd x0 (1:Int) (x0.length:Int):List (Tk)) λa7=>
    aa (decide (E.s=([84,82,85,69]:List UInt8)):Bool) λa8=>
    obind (bu a8) λad=>
    obind (bg ad) λaf=>
    some (af,a7)
   )else(
    none
   )
  )
 )
def parse_parser_primary(rec:(List Tk)->Int->Int->Int->Int->Option ((Nd) × (List Tk))) (x0:List Tk) (F:Int) (G:Int) (H:Int):Option ((Nd) × (List Tk)):=
 obind (aN x0 F G H ([40]:List UInt8)) λJ=>
 if J.1=true then(
  obind (be J.2 F G H (λa b c e=>bF rec a b c e)) λy8=>
  obind (ce y8.2 F G H ([41]:List UInt8)) λa1=>
  some (y8.1,a1.2)
 )else(
  aa ((λf=>
   aJ ((0:Int)<=0/\0<(f.length:Int))<|
   aa (gel f 0:Tk) λg=>
   aa (decide (g.k=1):Bool) λa6=>
   if a6=true then(
    obind (cv g.s) λW=>
    aa ((λu=>
     aJ ((0:Int)<=(1:Int)/\(1:Int)<=(u.length:Int)/\(u.length:Int)<=(u.length:Int))<|
     aa (fd u (1:Int) (u.length:Int):List (Tk)) λa7=>
     obind (bW W.1) λa8=>
     obind (bg a8) λad=>
     some (ad,a7)
     ):((List (Tk)))->Option ((Nd) × (List Tk))) λaf=>
    aa (!W.2:Bool) λao=>
    if ao=true then(
     none
    )else(
     af f
    )
   )else(
    aa (decide (g.k=2):Bool) λb0=>
    if b0=true then(
     aa ((λE=>
      aJ ((0:Int)<=(1:Int)/\(1:Int)<=(E.length:Int)/\(E.length:Int)<=(E.length:Int))<|
      aa (fd E (1:Int) (E.length:Int):List (Tk)) λb1=>
      obind (bw g.s) λb2=>
      obind (bg b2) λb3=>
      some (b3,b1)
      ):((List (Tk)))->Option ((Nd) × (List Tk))) λb4=>
     aa (decide (64<(g.s.length:Int)):Bool) λb5=>
     if b5=true then(
      none
     )else(
      b4 f
     )
    )else(
     aa (decide (g.k=5):Bool) λb6=>
     if b6=true then(
      obind (fX g.s) λb7=>
      aJ ((0:Int)<=(1:Int)/\(1:Int)<=(f.length:Int)/\(f.length:Int)<=(f.length:Int))<|
      aa (fd f (1:Int) (f.length:Int):List (Tk)) λbb=>
      obind (aG b7.1) λbk=>
      obind (bg bk) λbq=>
      some (bq,bb)
     )else(
      obind (cf rec f F G H g) λX=>
      some (X.1,X.2)
     )
    )
   )
   ):((List (Tk)))->Option ((Nd) × (List Tk))) λbs=>
  aa (decide ((J.2.length:Int)=0):Bool) λY=>
  aJ ((!Y)=true->(0:Int)<=0/\0<(J.2.length:Int))<|
  aa (gel J.2 0:Tk) λc6=>
  aa (decide (c6.k=4):Bool) λz62=>
  aa (Y||z62:Bool) λc7=>
  if c7=true then(
   none
  )else(
   bs J.2
  )
 )
def aU(rec:(List Tk)->Int->Int->Int->Int->Option ((Nd) × (List Tk))) (G:(List Tk)->Int->Int->Int->Option ((Nd) × (List Tk))) (x0:List Tk) (f:Int) (g:Int) (u:Int):Option ((Nd) × (List Tk)):=
 obind (aN x0 f g u ([45]:List UInt8)) λW=>
 if W.1=true then(
  obind (be W.2 f g u (λa b c e=>G a b c e)) λy6=>
  obind (gh (5:Int) y6.1) λy8=>
  some (y8,y6.2)
 )else(
  obind (parse_parser_primary rec W.2 f g u) λH=>
  aa ((λJ=>
   some (J.2,J.1)
   ):((List (Tk)) × Nd)->Option ((Nd) × (List Tk))) λX=>
  aa (λ(Y:((List (Tk)) × Nd)->Option ((Nd) × (List Tk))) (E:(List (Tk)) × Nd)=>
   obind (aN E.1 f g u ([37]:List UInt8)) λF=>
   if F.1=true then(
    obind (gh (6:Int) E.2) λa1=>
    Y (F.2,a1)
   )else(
    X (F.2,E.2)
   )
   ) λa6=>
  loopF a6 KK (H.2,H.1)
 )
def bG(rec:(List Tk)->Int->Int->Int->Int->Option ((Nd) × (List Tk))) (G:(List Tk)->Int->Int->Int->Option ((Nd) × (List Tk))) (x0:List Tk) (f:Int) (g:Int) (u:Int) (x1:Int):Option ((Nd) × (List Tk)):=
 aa (decide (x1=4):Bool) λz3=>
 if z3=true then(
  obind (aU rec G x0 f g u) λy5=>
  some (y5.1,y5.2)
 )else(
  aa (IntKind.wrap .i64 (x1+1):Int) λz7=>
  obind (rec x0 f g u z7) λy8=>
  aa (λ(J:((List (Tk)) × Nd)->Option ((Nd) × (List Tk))) (F:(List (Tk)) × Nd)=>
   obind (bV F.1 f g u x1) λE=>
   aa (decide (E.1=0):Bool) λW=>
   if W=true then(
    some (F.2,E.2)
   )else(
    aa (IntKind.wrap .i64 (x1+1):Int) λX=>
    obind (rec E.2 f g u X) λH=>
    obind (iw E.1 F.2 H.1) λY=>
    J (H.2,Y)
   )
   ) λa1=>
  loopF a1 KK (y8.2,y8.1)
 )
def parse_ring:Nat->((List Tk)->Int->Int->Int->Int->Option ((Nd) × (List Tk))) × ((List Tk)->Int->Int->Int->Option ((Nd) × (List Tk)))
 |0=>(λ_ _ _ _ _=>none,λ_ _ _ _=>none)
 |k+1=>(λa b c d e=>bG (parse_ring k).1 (parse_ring k).2 a b c d e,λa b c d=>aU (parse_ring k).1 (parse_ring k).2 a b c d)
def dM(x0:List UInt8) (E:Int):Option (Nd × Int × Int):=
 obind (i6 x0) λg=>
 aa (!decide (g.2.2=0):Bool) λF=>
 if F=true then(
  some ((⟨0,0,(⟨0,0,[]⟩:V),(⟨(⟨0,0,0⟩:C),false,false⟩:Rf),(⟨(⟨0,0,0⟩:C),false,false⟩:Rf),[],[]⟩:Nd),g.2.1,g.2.2)
 )else(
  obind ((parse_ring KK).1 g.1 E (x0.length:Int) (0:Int) (0:Int)) λf=>
  aa (decide (0<(f.2.length:Int)):Bool) λu=>
  if u=true then(
   none
  )else(
   some (f.1,0,0)
  )
 )
def g8(x0:Int):Option (Int):=
 aa (decide (6<=x0):Bool) λf=>
 if f=true then(
  some 0
 )else(
  aa (decide (x0=5):Bool) λg=>
  if g=true then(
   some 1
  )else(
   aa (decide (x0<=2):Bool) λu=>
   if u=true then(
    some 2
   )else(
    some 3
   )
  )
 )
def bL(x0:V):Option ((List UInt8)):=
 aa (decide (x0.k=0):Bool) λY=>
 if Y=true then(
  some ([66,76,65,78,75,40,41]:List UInt8)
 )else(
  aa (decide (x0.k=2):Bool) λz5=>
  if z5=true then(
   aJ (x0.s.length<4294967281/\1<=([34]:List UInt8).length/\x0.s.length+Lib.countB ⟨x0.s.toArray⟩ ⟨([34]:List UInt8).toArray⟩*([34,34]:List UInt8).length<=140737488355328)<|
   aa (Lib.replaceAll x0.s ([34]:List UInt8) ([34,34]:List UInt8):(List UInt8)) λX=>
   aJ (([34]:List UInt8).length+X.length<=9223372036854775807)<|
   aa (([34]:List UInt8)++X:List UInt8) λf=>
   aJ (f.length+([34]:List UInt8).length<=9223372036854775807)<|
   aa (f++([34]:List UInt8):List UInt8) λE=>
   some E
  )else(
   aa (decide (x0.k=1):Bool) λF=>
   aa (decide (x0.n<0):Bool) λG=>
   aa (F&&G:Bool) λH=>
   if H=true then(
    obind (cM x0.n) λg=>
    aJ (([40]:List UInt8).length+g.length<=9223372036854775807)<|
    aa (([40]:List UInt8)++g:List UInt8) λu=>
    aJ (u.length+([41]:List UInt8).length<=9223372036854775807)<|
    aa (u++([41]:List UInt8):List UInt8) λJ=>
    some J
   )else(
    obind (dy x0) λW=>
    some W
   )
  )
 )
def cj(x0:Rf) (x1:Int):Option ((List UInt8)):=
 aa ((λW=>
  aa ((λs5=>
   aa (IntKind.wrap .i64 (65+x0.c.c):Int) λz6=>
   aa (IntKind.wrap .i32 z6:Int) λX=>
   aJ ((0:Int)<=X/\X<128)<|
   aa ([UInt8.ofNat (Int.toNat X)]:List UInt8) λz9=>
   aJ (s5.length+z9.length<=9223372036854775807)<|
   aa (s5++z9:List UInt8) λf=>
   aa ((λE=>
    aa (IntKind.wrap .i64 (x0.c.r+1):Int) λg=>
    aJ ((0:Int)<=g/\g<100)<|
    aa (Lib.itoa g:(List UInt8)) λF=>
    aJ (E.length+F.length<=9223372036854775807)<|
    aa (E++F:List UInt8) λY=>
    some Y
    ):((List UInt8))->Option ((List UInt8))) λG=>
   if x0.ar=true then(
    aJ (f.length+([36]:List UInt8).length<=9223372036854775807)<|
    aa (f++([36]:List UInt8):List UInt8) λa1=>
    G a1
   )else(
    G f
   )
   ):((List UInt8))->Option ((List UInt8))) λJ5=>
  if x0.ac=true then(
   aJ (W.length+([36]:List UInt8).length<=9223372036854775807)<|
   aa (W++([36]:List UInt8):List UInt8) λa6=>
   J5 a6
  )else(
   J5 W
  )
  ):((List UInt8))->Option ((List UInt8))) λJ3=>
 aa (!decide (x0.c.s=x1):Bool) λa7=>
 if a7=true then(
  aa (IntKind.wrap .i64 (x0.c.s+1):Int) λu=>
  aJ ((0:Int)<=u/\u<100)<|
  aa (Lib.itoa u:(List UInt8)) λH=>
  aJ (([83]:List UInt8).length+H.length<=9223372036854775807)<|
  aa (([83]:List UInt8)++H:List UInt8) λJ=>
  aJ (J.length+([33]:List UInt8).length<=9223372036854775807)<|
  aa (J++([33]:List UInt8):List UInt8) λa8=>
  J3 a8
 )else(
  J3 []
 )
def bP(rec:Nd->Int->Int->Option ((List UInt8))) (x0:Nd) (E:Int) (x2:Int):Option ((List UInt8)):=
 aa ((λs3=>
  aa (decide (s3.2<x2):Bool) λz5=>
  if z5=true then(
   aJ (([40]:List UInt8).length+s3.1.length<=9223372036854775807)<|
   aa (([40]:List UInt8)++s3.1:List UInt8) λz8=>
   aJ (z8.length+([41]:List UInt8).length<=9223372036854775807)<|
   aa (z8++([41]:List UInt8):List UInt8) λb7=>
   some b7
  )else(
   some s3.1
  )
  ):((List UInt8) × Int)->Option ((List UInt8))) λJ3=>
 aa (decide (x0.k=1):Bool) λbb=>
 if bb=true then(
  obind (bL x0.v) λbk=>
  some bk
 )else(
  aa (decide (x0.k=2):Bool) λbq=>
  if bq=true then(
   obind (cj x0.a E) λbs=>
   some bs
  )else(
   aa (decide (x0.k=3):Bool) λc6=>
   if c6=true then(
    obind (cj x0.a E) λX=>
    aJ (X.length+([58]:List UInt8).length<=9223372036854775807)<|
    aa (X++([58]:List UInt8):List UInt8) λY=>
    obind (cj x0.b x0.b.c.s) λa1=>
    aJ (Y.length+a1.length<=9223372036854775807)<|
    aa (Y++a1:List UInt8) λc7=>
    some c7
   )else(
    aa (decide (x0.k=4):Bool) λc8=>
    if c8=true then(
     none
    )else(
     aa (decide (x0.k=8):Bool) λcc=>
     if cc=true then(
      aJ ((0:Int)<=(x0.l.length:Int)/\(x0.l.length:Int)<=1000000)<|
      aa (List.replicate (Int.toNat (x0.l.length:Int)) ([]:List UInt8):List (List UInt8)) λch=>
      aa ((λJ=>
       obind (fH x0.op) λa6=>
       aJ (a6.length+([40]:List UInt8).length<=9223372036854775807)<|
       aa (a6++([40]:List UInt8):List UInt8) λa7=>
       aJ (J.length<=140737488355328/\(Lib.join J ([44]:List UInt8)).length<=140737488355328)<|
       aa (Lib.join J ([44]:List UInt8):(List UInt8)) λa8=>
       aJ (a7.length+a8.length<=9223372036854775807)<|
       aa (a7++a8:List UInt8) λad=>
       aJ (ad.length+([41]:List UInt8).length<=9223372036854775807)<|
       aa (ad++([41]:List UInt8):List UInt8) λcp=>
       some cp
       ):((List (List UInt8)))->Option ((List UInt8))) λct=>
      aa (λ(cx:(Int × (List (List UInt8)))->Option ((List UInt8))) (f:Int × (List (List UInt8)))=>
       aa (decide (f.1<(x0.l.length:Int)):Bool) λcy=>
       if cy=true then(
        aJ ((0:Int)<=f.1/\f.1<(x0.l.length:Int))<|
        aa (gel x0.l f.1:Nd) λda=>
        obind (rec da E (0:Int)) λdd=>
        aJ ((0:Int)<=f.1/\f.1<(f.2.length:Int))<|
        aa (f.2.set (Int.toNat f.1) dd:List (List UInt8)) λu=>
        aa (IntKind.wrap .i64 (f.1+1):Int) λdj=>
        cx (dj,u)
       )else(
        ct f.2
       )
       ) λdn=>
      loopF dn KK (0,ch)
     )else(
      aa (decide (x0.k=5):Bool) λdv=>
      if dv=true then(
       aJ ((0:Int)<=0/\0<(x0.l.length:Int))<|
       aa (gel x0.l 0:Nd) λdz=>
       obind (rec dz E (4:Int)) λaf=>
       aJ (([45]:List UInt8).length+af.length<=9223372036854775807)<|
       aa (([45]:List UInt8)++af:List UInt8) λe0=>
       J3 (e0,4)
      )else(
       aa (decide (x0.k=6):Bool) λe1=>
       if e1=true then(
        aJ ((0:Int)<=0/\0<(x0.l.length:Int))<|
        aa (gel x0.l 0:Nd) λe2=>
        obind (rec e2 E (5:Int)) λao=>
        aJ (ao.length+([37]:List UInt8).length<=9223372036854775807)<|
        aa (ao++([37]:List UInt8):List UInt8) λe3=>
        aJ ((0:Int)<=0/\0<(x0.l.length:Int))<|
        aa (gel x0.l 0:Nd) λe4=>
        aa (decide (e4.k=5):Bool) λe5=>
        if e5=true then(
         aJ ((0:Int)<=0/\0<(x0.l.length:Int))<|
         aa (gel x0.l 0:Nd) λe6=>
         obind (rec e6 E (0:Int)) λb0=>
         aJ (([40]:List UInt8).length+b0.length<=9223372036854775807)<|
         aa (([40]:List UInt8)++b0:List UInt8) λb1=>
         aJ (b1.length+([41,37]:List UInt8).length<=9223372036854775807)<|
         aa (b1++([41,37]:List UInt8):List UInt8) λe7=>
         J3 (e7,5)
        )else(
         J3 (e3,5)
        )
       )else(
        obind (g8 x0.op) λW=>
        aJ ((0:Int)<=0/\0<(x0.l.length:Int))<|
        aa (gel x0.l 0:Nd) λe8=>
        obind (rec e8 E W) λb2=>
        aJ (qf.length<4294967281/\(qf.all λb=>decide (b.toNat<128))=true)<|
        aa (Lib.fields qf:(List (List UInt8))) λb3=>
        aa (IntKind.wrap .i64 (x0.op-1):Int) λg=>
        aJ ((0:Int)<=g/\g<(b3.length:Int))<|
        aa (gel b3 g:List UInt8) λF=>
        aJ (b2.length+F.length<=9223372036854775807)<|
        aa (b2++F:List UInt8) λG=>
        aJ ((0:Int)<=1/\1<(x0.l.length:Int))<|
        aa (gel x0.l 1:Nd) λb4=>
        aa (IntKind.wrap .i64 (W+1):Int) λb5=>
        obind (rec b4 E b5) λH=>
        aJ (G.length+H.length<=9223372036854775807)<|
        aa (G++H:List UInt8) λb6=>
        J3 (b6,W)
       )
      )
     )
    )
   )
  )
 )
def show_text:Nat->Nd->Int->Int->Option ((List UInt8))
 |0,_,_,_=>none
 |k+1,x0,f,g=>bP (show_text k) x0 f g
def ft(x0:Nd) (f:Int):Option ((List UInt8)):=
 obind (show_text KK x0 f (0:Int)) λg=>
 some g
def step_done(x0:Nd):Option (Bool):=
 aa (decide (x0.k=1):Bool) λf=>
 some f
def kC(rec:Nd->(List V)->Option (Nd)) (x0:Nd) (g:Int) (E:List V):Option (Nd):=
 aJ (([]:List (Nd)).length+x0.l.length<=9223372036854775807/\(([]:List (Nd)).length+x0.l.length)*152<=140737488355328)<|
 aa (([]:List (Nd))++x0.l:List (Nd)) λu=>
 aJ ((0:Int)<=g/\g<(u.length:Int))<|
 aa (gel u g:Nd) λF=>
 obind (rec F E) λG=>
 aJ ((0:Int)<=g/\g<(u.length:Int))<|
 aa (gel u g:Nd) λH=>
 aa (u.set (Int.toNat g) G:List (Nd)) λf=>
 some (⟨x0.k,x0.op,x0.v,x0.a,x0.b,x0.nm,f⟩:Nd)
def fP(rec:Nd->(List V)->Option (Nd)) (x0:Nd) (x1:List V):Option (Nd):=
 aa ((λs4=>
  aa (decide (x0.k=7):Bool) λz7=>
  if z7=true then(
   aJ ((0:Int)<=0/\0<(x0.l.length:Int))<|
   aa (gel x0.l 0:Nd) λu=>
   aJ ((0:Int)<=1/\1<(x0.l.length:Int))<|
   aa (gel x0.l 1:Nd) λE=>
   obind (eH x0.op u.v E.v) λF=>
   obind (bg F) λG=>
   some G
  )else(
   aJ ((0:Int)<=0/\0<(x0.l.length:Int))<|
   aa (gel x0.l 0:Nd) λH=>
   obind (dr x0.k H.v) λJ=>
   obind (bg J) λW=>
   some W
  )
  ):(Int × Int × Int × Int × (List UInt8) × Int × Int × Int × Bool × Bool × Int × Int × Int × Bool × Bool × (List UInt8) × (List (Nd)))->Option (Nd)) λJ4=>
 aa (λ(X:(Int × Int × Int × Int × Int × (List UInt8) × Int × Int × Int × Bool × Bool × Int × Int × Int × Bool × Bool × (List UInt8) × (List (Nd)))->Option (Nd)) (f:Int × Int × Int × Int × Int × (List UInt8) × Int × Int × Int × Bool × Bool × Int × Int × Int × Bool × Bool × (List UInt8) × (List (Nd)))=>
  aa (decide (f.1<(x0.l.length:Int)):Bool) λY=>
  if Y=true then(
   aJ ((0:Int)<=f.1/\f.1<(x0.l.length:Int))<|
   aa (gel x0.l f.1:Nd) λg=>
   obind (step_done g) λa1=>
   aa (!a1:Bool) λa6=>
   if a6=true then(
    obind (kC rec x0 f.1 x1) λa7=>
    some a7
   )else(
    aa (decide (g.v.k=4):Bool) λa8=>
    if a8=true then(
     some g
    )else(
     aa (IntKind.wrap .i64 (f.1+1):Int) λad=>
     X (ad,f.2.1,f.2.2.1,f.2.2.2.1,f.2.2.2.2.1,f.2.2.2.2.2.1,f.2.2.2.2.2.2.1,f.2.2.2.2.2.2.2.1,f.2.2.2.2.2.2.2.2.1,f.2.2.2.2.2.2.2.2.2.1,f.2.2.2.2.2.2.2.2.2.2.1,f.2.2.2.2.2.2.2.2.2.2.2.1,f.2.2.2.2.2.2.2.2.2.2.2.2.1,f.2.2.2.2.2.2.2.2.2.2.2.2.2.1,f.2.2.2.2.2.2.2.2.2.2.2.2.2.2.1,f.2.2.2.2.2.2.2.2.2.2.2.2.2.2.2.1,f.2.2.2.2.2.2.2.2.2.2.2.2.2.2.2.2.1,f.2.2.2.2.2.2.2.2.2.2.2.2.2.2.2.2.2)
    )
   )
  )else(
   J4 (f.2.1,f.2.2.1,f.2.2.2.1,f.2.2.2.2.1,f.2.2.2.2.2.1,f.2.2.2.2.2.2.1,f.2.2.2.2.2.2.2.1,f.2.2.2.2.2.2.2.2.1,f.2.2.2.2.2.2.2.2.2.1,f.2.2.2.2.2.2.2.2.2.2.1,f.2.2.2.2.2.2.2.2.2.2.2.1,f.2.2.2.2.2.2.2.2.2.2.2.2.1,f.2.2.2.2.2.2.2.2.2.2.2.2.2.1,f.2.2.2.2.2.2.2.2.2.2.2.2.2.2.1,f.2.2.2.2.2.2.2.2.2.2.2.2.2.2.2.1,f.2.2.2.2.2.2.2.2.2.2.2.2.2.2.2.2.1,f.2.2.2.2.2.2.2.2.2.2.2.2.2.2.2.2.2)
  )
  ) λaf=>
 loopF af KK (0,0,0,0,0,[],0,0,0,false,false,0,0,0,false,false,[],[])
def iI(rec:Nd->(List V)->Option (Nd)) (x0:Nd) (u:List V):Option (Nd):=
 aa ((λs4=>
  obind (dV x0 (⟨0,0,0⟩:C) u) λy6=>
  obind (bg y6.v) λy8=>
  some y8
  ):(Int × Int × Int × Int × (List UInt8) × Int × Int × Int × Bool × Bool × Int × Int × Int × Bool × Bool × (List UInt8) × (List (Nd)))->Option (Nd)) λJ4=>
 aa (λ(E:(Int × Int × Int × Int × Int × (List UInt8) × Int × Int × Int × Bool × Bool × Int × Int × Int × Bool × Bool × (List UInt8) × (List (Nd)))->Option (Nd)) (f:Int × Int × Int × Int × Int × (List UInt8) × Int × Int × Int × Bool × Bool × Int × Int × Int × Bool × Bool × (List UInt8) × (List (Nd)))=>
  aa (decide (f.1<(x0.l.length:Int)):Bool) λF=>
  if F=true then(
   aJ ((0:Int)<=f.1/\f.1<(x0.l.length:Int))<|
   aa (gel x0.l f.1:Nd) λg=>
   obind (eval_Area u g) λG=>
   obind (step_done g) λH=>
   aa (!H:Bool) λJ=>
   aa (!G.2.2:Bool) λW=>
   aa (J&&W:Bool) λX=>
   if X=true then(
    obind (kC rec x0 f.1 u) λY=>
    some Y
   )else(
    aa (IntKind.wrap .i64 (f.1+1):Int) λa1=>
    E (a1,f.2.1,f.2.2.1,f.2.2.2.1,f.2.2.2.2.1,f.2.2.2.2.2.1,f.2.2.2.2.2.2.1,f.2.2.2.2.2.2.2.1,f.2.2.2.2.2.2.2.2.1,f.2.2.2.2.2.2.2.2.2.1,f.2.2.2.2.2.2.2.2.2.2.1,f.2.2.2.2.2.2.2.2.2.2.2.1,f.2.2.2.2.2.2.2.2.2.2.2.2.1,f.2.2.2.2.2.2.2.2.2.2.2.2.2.1,f.2.2.2.2.2.2.2.2.2.2.2.2.2.2.1,f.2.2.2.2.2.2.2.2.2.2.2.2.2.2.2.1,f.2.2.2.2.2.2.2.2.2.2.2.2.2.2.2.2.1,f.2.2.2.2.2.2.2.2.2.2.2.2.2.2.2.2.2)
   )
  )else(
   J4 (f.2.1,f.2.2.1,f.2.2.2.1,f.2.2.2.2.1,f.2.2.2.2.2.1,f.2.2.2.2.2.2.1,f.2.2.2.2.2.2.2.1,f.2.2.2.2.2.2.2.2.1,f.2.2.2.2.2.2.2.2.2.1,f.2.2.2.2.2.2.2.2.2.2.1,f.2.2.2.2.2.2.2.2.2.2.2.1,f.2.2.2.2.2.2.2.2.2.2.2.2.1,f.2.2.2.2.2.2.2.2.2.2.2.2.2.1,f.2.2.2.2.2.2.2.2.2.2.2.2.2.2.1,f.2.2.2.2.2.2.2.2.2.2.2.2.2.2.2.1,f.2.2.2.2.2.2.2.2.2.2.2.2.2.2.2.2.1,f.2.2.2.2.2.2.2.2.2.2.2.2.2.2.2.2.2)
  )
  ) λa6=>
 loopF a6 KK (0,0,0,0,0,[],0,0,0,false,false,0,0,0,false,false,[],[])
def fb(x0:Nd) (g:List V):Option (Nd):=
 obind (eval_Area g x0) λu=>
 if u.2.2=true then(
  obind (dV x0 (⟨0,0,0⟩:C) g) λE=>
  obind (bg E.v) λf=>
  some f
 )else(
  some x0
 )
def jx(x0:Nd) (x1:V) (u:List V):Option (Nd):=
 aa (decide (x0.op=5):Bool) λz5=>
 if z5=true then(
  obind (b9 x1) λE=>
  aa (decide (E.k=4):Bool) λF=>
  if F=true then(
   obind (bg E) λG=>
   some G
  )else(
   aa (IntKind.wrap .i64 (Int.tdiv E.n 1000000):Int) λf=>
   aa (decide (1<=f):Bool) λH=>
   aa (decide (f<(x0.l.length:Int)):Bool) λJ=>
   aa (H&&J:Bool) λW=>
   if W=true then(
    aJ ((0:Int)<=f/\f<(x0.l.length:Int))<|
    aa (gel x0.l f:Nd) λX=>
    obind (fb X u) λY=>
    some Y
   )else(
    obind (aG (2:Int)) λa1=>
    obind (bg a1) λa6=>
    some a6
   )
  )
 )else(
  obind (bZ x1) λg=>
  aa (decide (g.k=4):Bool) λa7=>
  if a7=true then(
   obind (bg g) λa8=>
   some a8
  )else(
   aa (decide (g.n=1):Bool) λad=>
   if ad=true then(
    aJ ((0:Int)<=1/\1<(x0.l.length:Int))<|
    aa (gel x0.l 1:Nd) λaf=>
    obind (fb af u) λao=>
    some ao
   )else(
    aa (decide ((x0.l.length:Int)=3):Bool) λb0=>
    if b0=true then(
     aJ ((0:Int)<=2/\2<(x0.l.length:Int))<|
     aa (gel x0.l 2:Nd) λb1=>
     obind (fb b1 u) λb2=>
     some b2
    )else(
     obind (bu false) λb3=>
     obind (bg b3) λb4=>
     some b4
    )
   )
  )
 )
def ka(rec:Nd->(List V)->Option (Nd)) (x0:Nd) (F:List V):Option (Nd):=
 aJ ((0:Int)<=0/\0<(x0.l.length:Int))<|
 aa (gel x0.l 0:Nd) λf=>
 obind (step_done f) λy8=>
 aa (!y8:Bool) λz9=>
 if z9=true then(
  obind (kC rec x0 (0:Int) F) λG=>
  some G
 )else(
  aa (decide (x0.op=2):Bool) λH=>
  if H=true then(
   aa (decide (f.v.k=4):Bool) λJ=>
   if J=true then(
    aJ ((0:Int)<=1/\1<(x0.l.length:Int))<|
    aa (gel x0.l 1:Nd) λW=>
    obind (fb W F) λX=>
    some X
   )else(
    some f
   )
  )else(
   aa ((λY=>
    if Y=true then(
     aa (decide (f.v.k=4):Bool) λa1=>
     if a1=true then(
      some f
     )else(
      obind (jx x0 f.v F) λa6=>
      some a6
     )
    )else(
     obind (bZ f.v) λg=>
     aa (decide (g.k=4):Bool) λa7=>
     aa (decide (g.n=1):Bool) λa8=>
     aa (decide (x0.op=4):Bool) λad=>
     aa (a8 == ad:Bool) λz40=>
     aa (a7||z40:Bool) λaf=>
     aa (decide ((x0.l.length:Int)=1):Bool) λz42=>
     aa (af||z42:Bool) λao=>
     if ao=true then(
      obind (bg g) λb0=>
      some b0
     )else(
      aJ ((0:Int)<=(1:Int)/\(1:Int)<=(x0.l.length:Int)/\(x0.l.length:Int)<=(x0.l.length:Int))<|
      aa (fd x0.l (1:Int) (x0.l.length:Int):List (Nd)) λb1=>
      some (⟨x0.k,x0.op,x0.v,x0.a,x0.b,x0.nm,b1⟩:Nd)
     )
    )
    ):(Bool)->Option (Nd)) λu=>
   aa (decide (x0.op=5):Bool) λE=>
   if E=true then(
    u E
   )else(
    aa (decide (x0.op=1):Bool) λb2=>
    u b2
   )
  )
 )
def jr(rec:Nd->(List V)->Option (Nd)) (x0:Nd) (G:List V):Option (Nd):=
 aa (decide (x0.k=1):Bool) λz5=>
 if z5=true then(
  some x0
 )else(
  aa ((λs8=>
   if s8=true then(
    obind (dV x0 (⟨0,0,0⟩:C) G) λH=>
    obind (bg H.v) λJ=>
    some J
   )else(
    aa ((λW=>
     if W=true then(
      obind (fP rec x0 G) λX=>
      some X
     )else(
      aa (decide (x0.op<=5):Bool) λY=>
      if Y=true then(
       obind (ka rec x0 G) λa1=>
       some a1
      )else(
       obind (iI rec x0 G) λa6=>
       some a6
      )
     )
     ):(Bool)->Option (Nd)) λf=>
    aa (decide (x0.k=5):Bool) λg=>
    if g=true then(
     f g
    )else(
     aa (decide (x0.k=6):Bool) λu=>
     if u=true then(
      f u
     )else(
      aa (decide (x0.k=7):Bool) λa7=>
      f a7
     )
    )
   )
   ):(Bool)->Option (Nd)) λJ8=>
  aa (decide (x0.k=2):Bool) λE=>
  if E=true then(
   J8 E
  )else(
   aa (decide (x0.k=3):Bool) λF=>
   if F=true then(
    J8 F
   )else(
    aa (decide (x0.k=4):Bool) λa8=>
    J8 a8
   )
  )
 )
def step_One:Nat->Nd->(List V)->Option (Nd)
 |0,_,_=>none
 |k+1,x0,f=>jr (step_One k) x0 f
def j8(x0:Nd) (X:List V):Option ((List (Nd))):=
 aa ((λY=>
  some Y.2.2.2.2.2.2.2.2.2.2.2.2.2.2.2.2.2
  ):(Int × Int × Int × Int × (List UInt8) × Int × Int × Int × Bool × Bool × Int × Int × Int × Bool × Bool × (List UInt8) × (List (Nd)) × (List (Nd)))->Option ((List (Nd)))) λW=>
 obind (gQ KK x0) λy7=>
 aa (IntKind.wrap .i64 (2*y7):Int) λz8=>
 aa (λ(u:(Int × Int × Int × Int × Int × (List UInt8) × Int × Int × Int × Bool × Bool × Int × Int × Int × Bool × Bool × (List UInt8) × (List (Nd)) × (List (Nd)))->Option ((List (Nd)))) (f:Int × Int × Int × Int × Int × (List UInt8) × Int × Int × Int × Bool × Bool × Int × Int × Int × Bool × Bool × (List UInt8) × (List (Nd)) × (List (Nd)))=>
  aa (decide (f.1<z8):Bool) λE=>
  if E=true then(
   obind (step_done (⟨f.2.1,f.2.2.1,(⟨f.2.2.2.1,f.2.2.2.2.1,f.2.2.2.2.2.1⟩:V),(⟨(⟨f.2.2.2.2.2.2.1,f.2.2.2.2.2.2.2.1,f.2.2.2.2.2.2.2.2.1⟩:C),f.2.2.2.2.2.2.2.2.2.1,f.2.2.2.2.2.2.2.2.2.2.1⟩:Rf),(⟨(⟨f.2.2.2.2.2.2.2.2.2.2.2.1,f.2.2.2.2.2.2.2.2.2.2.2.2.1,f.2.2.2.2.2.2.2.2.2.2.2.2.2.1⟩:C),f.2.2.2.2.2.2.2.2.2.2.2.2.2.2.1,f.2.2.2.2.2.2.2.2.2.2.2.2.2.2.2.1⟩:Rf),f.2.2.2.2.2.2.2.2.2.2.2.2.2.2.2.2.1,f.2.2.2.2.2.2.2.2.2.2.2.2.2.2.2.2.2.1⟩:Nd)) λF=>
   if F=true then(
    W (f.2.1,f.2.2.1,f.2.2.2.1,f.2.2.2.2.1,f.2.2.2.2.2.1,f.2.2.2.2.2.2.1,f.2.2.2.2.2.2.2.1,f.2.2.2.2.2.2.2.2.1,f.2.2.2.2.2.2.2.2.2.1,f.2.2.2.2.2.2.2.2.2.2.1,f.2.2.2.2.2.2.2.2.2.2.2.1,f.2.2.2.2.2.2.2.2.2.2.2.2.1,f.2.2.2.2.2.2.2.2.2.2.2.2.2.1,f.2.2.2.2.2.2.2.2.2.2.2.2.2.2.1,f.2.2.2.2.2.2.2.2.2.2.2.2.2.2.2.1,f.2.2.2.2.2.2.2.2.2.2.2.2.2.2.2.2.1,f.2.2.2.2.2.2.2.2.2.2.2.2.2.2.2.2.2.1,f.2.2.2.2.2.2.2.2.2.2.2.2.2.2.2.2.2.2)
   )else(
    obind (step_One KK (⟨f.2.1,f.2.2.1,(⟨f.2.2.2.1,f.2.2.2.2.1,f.2.2.2.2.2.1⟩:V),(⟨(⟨f.2.2.2.2.2.2.1,f.2.2.2.2.2.2.2.1,f.2.2.2.2.2.2.2.2.1⟩:C),f.2.2.2.2.2.2.2.2.2.1,f.2.2.2.2.2.2.2.2.2.2.1⟩:Rf),(⟨(⟨f.2.2.2.2.2.2.2.2.2.2.2.1,f.2.2.2.2.2.2.2.2.2.2.2.2.1,f.2.2.2.2.2.2.2.2.2.2.2.2.2.1⟩:C),f.2.2.2.2.2.2.2.2.2.2.2.2.2.2.1,f.2.2.2.2.2.2.2.2.2.2.2.2.2.2.2.1⟩:Rf),f.2.2.2.2.2.2.2.2.2.2.2.2.2.2.2.2.1,f.2.2.2.2.2.2.2.2.2.2.2.2.2.2.2.2.2.1⟩:Nd) X) λg=>
    aJ (f.2.2.2.2.2.2.2.2.2.2.2.2.2.2.2.2.2.2.length+[g].length<=9223372036854775807/\(f.2.2.2.2.2.2.2.2.2.2.2.2.2.2.2.2.2.2.length+[g].length)*152<=140737488355328)<|
    aa (f.2.2.2.2.2.2.2.2.2.2.2.2.2.2.2.2.2.2++[g]:List (Nd)) λG=>
    aa (IntKind.wrap .i64 (f.1+1):Int) λH=>
    u (H,g.k,g.op,g.v.k,g.v.n,g.v.s,g.a.c.s,g.a.c.c,g.a.c.r,g.a.ac,g.a.ar,g.b.c.s,g.b.c.c,g.b.c.r,g.b.ac,g.b.ar,g.nm,g.l,G)
   )
  )else(
   W (f.2.1,f.2.2.1,f.2.2.2.1,f.2.2.2.2.1,f.2.2.2.2.2.1,f.2.2.2.2.2.2.1,f.2.2.2.2.2.2.2.1,f.2.2.2.2.2.2.2.2.1,f.2.2.2.2.2.2.2.2.2.1,f.2.2.2.2.2.2.2.2.2.2.1,f.2.2.2.2.2.2.2.2.2.2.2.1,f.2.2.2.2.2.2.2.2.2.2.2.2.1,f.2.2.2.2.2.2.2.2.2.2.2.2.2.1,f.2.2.2.2.2.2.2.2.2.2.2.2.2.2.1,f.2.2.2.2.2.2.2.2.2.2.2.2.2.2.2.1,f.2.2.2.2.2.2.2.2.2.2.2.2.2.2.2.2.1,f.2.2.2.2.2.2.2.2.2.2.2.2.2.2.2.2.2.1,f.2.2.2.2.2.2.2.2.2.2.2.2.2.2.2.2.2.2)
  )
  ) λJ=>
 loopF J KK (0,x0.k,x0.op,x0.v.k,x0.v.n,x0.v.s,x0.a.c.s,x0.a.c.c,x0.a.c.r,x0.a.ac,x0.a.ar,x0.b.c.s,x0.b.c.c,x0.b.c.r,x0.b.ac,x0.b.ar,x0.nm,x0.l,[x0])
def eU  : Option (Bool):=
 obind (dM ([49,43,50,42,51]:List UInt8) (0:Int)) λy1=>
 obind (j8 y1.1 jT) λF=>
 aa (decide (y1.2.2=0):Bool) λz9=>
 aa (decide ((F.length:Int)=3):Bool) λG=>
 aa (z9&&G:Bool) λf=>
 aJ (f=true->(0:Int)<=2/\2<(F.length:Int))<|
 aa (gel F 2:Nd) λg=>
 obind (if f=true then bW (7000000:Int)else some default) λu=>
 aa ((decide (g.v.k=u.k)&&(decide (g.v.n=u.n)&&decide (g.v.s=u.s))):Bool) λH=>
 aa (f&&H:Bool) λE=>
 aJ (E=true->(0:Int)<=1/\1<(F.length:Int))<|
 aa (gel F 1:Nd) λJ=>
 obind (if E=true then ft J (0:Int)else some default) λW=>
 aa (decide (W=([49,43,54]:List UInt8)):Bool) λX=>
 aa (E&&X:Bool) λY=>
 some Y
def c_(x0 J:Int):Option (Rf):=
 aa (bits .and .i64 x0 1:Int) λW=>
 aa (decide (W=1):Bool) λX=>
 aa (bits .and .i64 x0 2:Int) λY=>
 aa (decide (Y=2):Bool) λz5=>
 aa (decide (J=4):Bool) λz6=>
 aa (z5&&z6:Bool) λz7=>
 aa (bits .and .i64 x0 3:Int) λz9=>
 aa (IntKind.wrap .i64 (Int.tdiv x0 4):Int) λg=>
 aa (bits .and .i64 g 3:Int) λu=>
 aa ((λE=>
  some (⟨(⟨E,z9,u⟩:C),X,z7⟩:Rf)
  ):(Int)->Option (Rf)) λf=>
 aa (decide (J=4):Bool) λF=>
 aa (decide (11<x0):Bool) λG=>
 aa (F&&G:Bool) λH=>
 if H=true then(
  f 1
 )else(
  f 0
 )
def bU(rec:(List Int)->Int->Option ((Nd) × (List Int))) (x0:List Int) (x1:Int):Option ((Nd) × (List Int)):=
 aa ((λf=>
  aa (Int.tmod f.1 16:Int) λz5=>
  aa ((λF=>
   aa (decide (F<2):Bool) λz9=>
   if z9=true then(
    aa (IntKind.wrap .i64 (Int.tdiv f.1 16):Int) λcp=>
    aa (IntKind.wrap .i64 (cp*500000):Int) λct=>
    obind (bW ct) λcx=>
    obind (bg cx) λcy=>
    some (cy,f.2)
   )else(
    aa (decide (F=2):Bool) λda=>
    if da=true then(
     obind (bw ([97,34,98]:List UInt8)) λdd=>
     obind (bg dd) λJ=>
     aa (bits .and .i64 f.1 16:Int) λdj=>
     aa (decide (dj=0):Bool) λdn=>
     obind (bu dn) λdv=>
     obind (bg dv) λW=>
     aa (IntKind.wrap .i64 (Int.tdiv f.1 16):Int) λdz=>
     aa (Int.tmod dz 7:Int) λe0=>
     aa (IntKind.wrap .i64 (e0+1):Int) λe1=>
     obind (aG e1) λe2=>
     obind (bg e2) λX=>
     obind (bg (⟨0,0,[]⟩:V)) λY=>
     aa (IntKind.wrap .i64 (Int.tdiv f.1 64):Int) λH=>
     aJ ((0:Int)<=H/\H<([J,W,X,Y].length:Int))<|
     aa (gel [J,W,X,Y] H:Nd) λe3=>
     some (e3,f.2)
    )else(
     aa (decide (F<5):Bool) λe4=>
     if e4=true then(
      aa (IntKind.wrap .i64 (Int.tdiv f.1 16):Int) λe5=>
      obind (c_ e5 F) λe6=>
      obind (l6 e6) λe7=>
      some (e7,f.2)
     )else(
      aa (decide (F=5):Bool) λe8=>
      if e8=true then(
       aa (IntKind.wrap .i64 (Int.tdiv f.1 16):Int) λe9=>
       obind (c_ e9 (3:Int)) λE=>
       aa (bits .and .i64 f.1 1:Int) λea=>
       aa (IntKind.wrap .i64 (E.c.c+ea):Int) λeb=>
       aa (IntKind.wrap .i64 (Int.tdiv f.1 32):Int) λec=>
       aa (Int.tmod ec 3:Int) λed=>
       aa (IntKind.wrap .i64 (E.c.r+ed):Int) λef=>
       obind (lW E (⟨(⟨E.c.s,eb,ef⟩:C),E.ac,E.ar⟩:Rf)) λei=>
       some (ei,f.2)
      )else(
       aa (decide (F=6):Bool) λej=>
       if ej=true then(
        aa (IntKind.wrap .i64 (x1-1):Int) λel=>
        obind (rec f.2 el) λa1=>
        obind (gh (5:Int) a1.1) λeo=>
        some (eo,a1.2)
       )else(
        aa (decide (F=7):Bool) λep=>
        if ep=true then(
         aa (IntKind.wrap .i64 (x1-1):Int) λer=>
         obind (rec f.2 er) λa6=>
         obind (gh (6:Int) a6.1) λet=>
         some (et,a6.2)
        )else(
         aa (decide (F<12):Bool) λeu=>
         if eu=true then(
          aa (IntKind.wrap .i64 (x1-1):Int) λew=>
          obind (rec f.2 ew) λa7=>
          aa (Int.tmod f.1 11:Int) λey=>
          aa (IntKind.wrap .i64 (ey+1):Int) λez=>
          aa (IntKind.wrap .i64 (x1-1):Int) λeF=>
          obind (rec a7.2 eF) λa8=>
          obind (iw ez a7.1 a8.1) λeJ=>
          some (eJ,a8.2)
         )else(
          aa (IntKind.wrap .i64 (Int.tdiv f.1 4):Int) λeZ=>
          aa (Int.tmod eZ 54:Int) λff=>
          aa (IntKind.wrap .i64 (ff+1):Int) λfs=>
          aa ((λad=>
           aa ((λaf=>
            obind (g9 ad af.2) λgb=>
            some (gb,af.1)
            ):((List (Int)) × (List (Nd)))->Option ((Nd) × (List Int))) λgf=>
           aa (λ(gg:((List (Int)) × (List (Nd)))->Option ((Nd) × (List Int))) (g:(List (Int)) × (List (Nd)))=>
            aa (decide ((g.2.length:Int)<9):Bool) λG=>
            obind (if G=true then cn ad (g.2.length:Int)else some default) λao=>
            aa (!ao:Bool) λb0=>
            aa (G&&b0:Bool) λb1=>
            if b1=true then(
             aa (IntKind.wrap .i64 (x1-1):Int) λb2=>
             obind (rec g.1 b2) λu=>
             aJ (g.2.length+[u.1].length<=9223372036854775807/\(g.2.length+[u.1].length)*152<=140737488355328)<|
             aa (g.2++[u.1]:List (Nd)) λb3=>
             gg (u.2,b3)
            )else(
             gf (g.1,g.2)
            )
            ) λgl=>
           loopF gl KK (f.2,([]:List (Nd)))
           ):(Int)->Option ((Nd) × (List Int))) λb4=>
          aa (decide (0<(f.2.length:Int)):Bool) λb5=>
          if b5=true then(
           aJ ((0:Int)<=0/\0<(f.2.length:Int))<|
           aa (gel f.2 0:Int) λb6=>
           aa (IntKind.wrap .i64 b6:Int) λb7=>
           aa (Int.tmod b7 54:Int) λbb=>
           aa (IntKind.wrap .i64 (bb+1):Int) λbk=>
           b4 bk
          )else(
           b4 fs
          )
         )
        )
       )
      )
     )
    )
   )
   ):(Int)->Option ((Nd) × (List Int))) λJ7=>
  aa (decide (x1<=0):Bool) λbq=>
  aa (decide ((f.2.length:Int)=0):Bool) λz123=>
  aa (bq||z123:Bool) λbs=>
  if bs=true then(
   aa (Int.tmod f.1 6:Int) λc6=>
   J7 c6
  )else(
   J7 z5
  )
  ):(Int × (List (Int)))->Option ((Nd) × (List Int))) λJ3=>
 aa (decide (0<(x0.length:Int)):Bool) λc7=>
 if c7=true then(
  aJ ((0:Int)<=0/\0<(x0.length:Int))<|
  aa (gel x0 0:Int) λc8=>
  aa (IntKind.wrap .i64 c8:Int) λcc=>
  aJ ((0:Int)<=(1:Int)/\(1:Int)<=(x0.length:Int)/\(x0.length:Int)<=(x0.length:Int))<|
  aa (fd x0 (1:Int) (x0.length:Int):List (Int)) λch=>
  J3 (cc,ch)
 )else(
  J3 (0,x0)
 )
def b8:Nat->(List Int)->Int->Option ((Nd) × (List Int))
 |0,_,_=>none
 |k+1,x0,f=>bU (b8 k) x0 f
def de(x0:List (Int)) (x1:List (V)):Option (Bool):=
 obind (eU) λy3=>
 aa (!y3:Bool) λz4=>
 if z4=true then(
  some false
 )else(
  aa (decide (60<(x0.length:Int)):Bool) λz7=>
  aa (decide (150<(x1.length:Int)):Bool) λz8=>
  aa (z7||z8:Bool) λz9=>
  if z9=true then(
   some true
  )else(
   obind (b8 KK x0 (4:Int)) λa1=>
   obind (dl x1) λu=>
   obind (dV a1.1 (⟨0,0,0⟩:C) u) λg=>
   obind (j8 a1.1 u) λE=>
   aa ((λc6=>
    some true
    ):(Unit)->Option (Bool)) λad=>
   aa (λ(a6:(Int)->Option (Bool)) (f:Int)=>
    aa (decide (f<(E.length:Int)):Bool) λaf=>
    if af=true then(
     aJ ((0:Int)<=f/\f<(E.length:Int))<|
     aa (gel E f:Nd) λF=>
     obind (jh F) λao=>
     aa (!ao:Bool) λa7=>
     obind (if(!a7)=true then dV F (⟨0,0,0⟩:C) u else some default) λW=>
     aa (!((decide (W.v.k=g.v.k)&&(decide (W.v.n=g.v.n)&&decide (W.v.s=g.v.s)))):Bool) λz41=>
     aa (a7||z41:Bool) λG=>
     aa (decide (0<f):Bool) λH=>
     aa (IntKind.wrap .i64 (f-1):Int) λX=>
     aJ ((!G&&H)=true->(0:Int)<=X/\X<(E.length:Int))<|
     aa (gel E X:Nd) λb0=>
     obind (if(!G&&H)=true then step_One KK b0 u else some default) λb1=>
     obind (if(!G&&H)=true then jc KK F b1 else some default) λb2=>
     aa (!b2:Bool) λb3=>
     aa (H&&b3:Bool) λz52=>
     aa (G||z52:Bool) λb4=>
     if b4=true then(
      some false
     )else(
      obind (ft F (0:Int)) λb5=>
      obind (dM b5 (0:Int)) λJ=>
      aa (decide (J.2.2=4):Bool) λb6=>
      aa (decide (J.2.2=3):Bool) λz61=>
      aa (b6||z61:Bool) λb7=>
      if b7=true then(
       aa (IntKind.wrap .i64 (f+1):Int) λbb=>
       a6 bb
      )else(
       aa (!decide (J.2.2=0):Bool) λa8=>
       obind (if(!a8)=true then dV J.1 (⟨0,0,0⟩:C) u else some default) λY=>
       aa (!((decide (Y.v.k=g.v.k)&&(decide (Y.v.n=g.v.n)&&decide (Y.v.s=g.v.s)))):Bool) λz68=>
       aa (a8||z68:Bool) λbk=>
       if bk=true then(
        some false
       )else(
        aa (IntKind.wrap .i64 (f+1):Int) λbq=>
        a6 bq
       )
      )
     )
    )else(
     ad ()
    )
    ) λbs=>
   loopF bs KK 0
  )
 )
end Go.Sp
end
