/- Joined texts. -/
import Derived.Test.YtnllbjchcfpmpaaGreatDoorMU0
set_option linter.all false
section
namespace Go.Sp
theorem fA{p:Prop}(h:p:=by first|trivial|assumption|omega|(simp only;omega)|(simp only;assumption)|(simp;omega)|(simp;done)):p:=h
theorem fB{p:Prop}(h:p:=by first|trivial|assumption|omega|(simp only;omega)):p:=h
theorem fC{p:Prop}(h:p:=by first|omega|decide|(simp;omega)|(simp;done)):p:=h
theorem fD{p:Prop}(h:p:=by first|(simp only;omega)|(simp;omega)|(simp;done)):p:=h
theorem fE{p:Prop}(h:p:=by first|trivial|omega|(simp only;omega)|(simp only;refine⟨by omega,?_⟩;first|assumption|omega)|(simp;omega)|(simp;done)):p:=h
theorem oM{p:Prop}(h:p:=by omega):p:=h
theorem BL:(∀(p:Prop) [Decidable p],(decide p=true)=p)/\(∀(p:Prop) [Decidable p],(decide p=false)<->¬p)/\(∀a b:Bool,((a||b)=true)=(a=true\/b=true))/\(∀a b:Bool,((a&&b)=true)=(a=true/\b=true))/\(∀a b:Bool,((a||b)=false)<->a=false/\b=false)/\(∀a b:Bool,((a&&b)=false)<->a=false\/b=false)/\(∀b:Bool,((!b)=true)<->b=false)/\(∀b:Bool,((!b)=false)<->b=true)/\(∀a b:Bool,((!a)=b)<->a=!b)/\((!true)=false)/\((!false)=true)/\(∀(α:Type) (a b:α),(a≠b)=¬(a=b))/\(∀(p:Prop) [Decidable p] [Decidable (¬p)],decide (¬p)=!decide p):=
  ⟨λp _=>decide_eq_true_eq,λp _=>decide_eq_false_iff_not,λa b=>by cases a<;>cases b<;>simp,λa b=>by cases a<;>cases b<;>simp,λa b=>by cases a<;>cases b<;>simp,λa b=>by cases a<;>cases b<;>simp,λb=>by cases b<;>simp,λb=>by cases b<;>simp,λa b=>by cases a<;>cases b<;>simp,rfl,rfl,λ_ _ _=>rfl,λp _ _=>decide_not⟩
theorem dT{p:Prop} [Decidable p]:(decide p=true)=p:=decide_eq_true_eq
theorem dF{p:Prop} [Decidable p]:(decide p=false)<->¬p:=decide_eq_false_iff_not
theorem bA(a b:Bool):((a&&b)=true)=(a=true/\b=true):=Bool.and_eq_true a b
open Go.Stp
section
variable {α β σ ρ:Type}
def Ok(x:Option α) (P:α->Prop):Prop:=∃v,x=some v/\P v
theorem Ok.bv{x:α}{f:α->Option β}{P:β->Prop}(h:∀z,z=x->Ok (f z) P):Ok (aa x f) P:=h x rfl
theorem Ok.ck{p:Prop} [Decidable p]{A:Option β}{P:β->Prop}(hp:p) (h:Ok A P):Ok (aJ p A) P:=by
 unfold aJ
 rw[if_pos hp]
 exact h
theorem Ok.cF{p:Prop} [Decidable p]{A:Option β}{P:β->Prop}(hp:p) (h:p->Ok A P):Ok (aJ p A) P:=Ok.ck hp (h hp)
theorem Ok.ob{x:Option α}{f:α->Option β}{P:β->Prop}{R:α->Prop}(h:Ok x R) (k:∀y,x=some y->R y->Ok (f y) P):Ok (obind x f) P:=by
 obtain⟨y,hy,u⟩:=h
 have:=k y hy u
 rw[hy]
 exact this
theorem Ok.os{v:α}{f:α->Option β}{P:β->Prop}(k:∀y,y=v->Ok (f y) P):Ok (obind (some v) f) P:=k v rfl
theorem Ok.it{b:Bool}{A B:Option β}{P:β->Prop}(f:b=true->Ok A P) (u:b=false->Ok B P):Ok (if b=true then A else B) P:=by
 cases b with
 |true=>rw[if_pos rfl];exact f O
 |false=>rw[if_neg Bool.false_ne_true];exact u O
theorem Ok.sm{v:β}{P:β->Prop}(h:P v):Ok (some v) P:=⟨v,rfl,h⟩
theorem Ok.mono{x:Option α}{P R:α->Prop}(h:Ok x P) (k:∀v,P v->R v):Ok x R:=by
 obtain⟨v,f,u⟩:=h
 exact⟨v,f,k v u⟩
theorem Ok.of{x:Option α}{v:α}{P:α->Prop}(h:x=some v) (hp:P v):Ok x P:=⟨v,h,hp⟩
theorem Ok.DB{B:(σ->Option ρ)->σ->Option ρ}{P:ρ->Prop}(I:σ->Prop) (μ:σ->Nat) (step:∀s,I s->∀next:σ->Option ρ,(∀s',I s'->μ s'<μ s->Ok (next s') P)->Ok (B next s) P):∀(K:Nat) (s:σ),I s->μ s<K->Ok (loopF B K s) P
 |0,s,_,h=>oM
 |K+1,s,u,h=>step s u (loopF B K) λs' f E=>Ok.DB I μ step K s' f oM
theorem Ok.lp{B:(σ->Option ρ)->σ->Option ρ}{P:ρ->Prop}(I:σ->Prop) (μ:σ->Nat){s:σ}(f:I s) (u:μ s<1208925819614629174706176) (step:∀s,I s->∀next:σ->Option ρ,(∀s',I s'->μ s'<μ s->Ok (next s') P)->Ok (B next s) P):Ok (loopF B KK s) P:=
 Ok.DB I μ step KK s f (by unfold KK;omega)
end
theorem au{z E:Int}(e:z=IntKind.wrap .i64 E):(-9223372036854775808<=z/\z<=9223372036854775807)/\(-9223372036854775808<=E/\E<=9223372036854775807->z=E):=by
 simp[IntKind.wrap,IntKind.bits,IntKind.signed]at e
 split at e<;>omega
theorem j0{z E:Int}(e:z=IntKind.wrap .u64 E):(0<=z/\z<=18446744073709551615)/\(0<=E/\E<=18446744073709551615->z=E):=by
 simp[IntKind.wrap,IntKind.bits,IntKind.signed]at e
 omega
theorem Aa{z E:Int}(e:z=IntKind.wrap .u8 E):(0<=z/\z<=255)/\(0<=E/\E<=255->z=E):=by
 simp[IntKind.wrap,IntKind.bits,IntKind.signed]at e
 omega
theorem EP{z E:Int}(e:z=IntKind.wrap .i32 E):(-2147483648<=z/\z<=2147483647)/\(-2147483648<=E/\E<=2147483647->z=E):=by
 simp[IntKind.wrap,IntKind.bits,IntKind.signed]at e
 split at e<;>omega
theorem o7(a:Int){c:Int}(f:0<c):-c<a.tmod c/\a.tmod c<c/\a=c*a.tdiv c+a.tmod c/\(0<=a->0<=a.tmod c)/\(a<=0->a.tmod c<=0):=by
 refine⟨?_,Int.tmod_lt_of_pos a f,(Int.mul_tdiv_add_tmod a c).symm,λh=>Int.tmod_nonneg c h,λh=>?_⟩
 · have:=Int.lt_tmod_of_pos a f
   omega
 · have:=Int.tmod_nonneg c (show 0<=-a by omega)
   rw[Int.neg_tmod]at this
   omega
theorem cu{α:Type} [Inhabited α]{l:List α}{i:Int}(h:0<=i/\i<(l.length:Int)):gel l i∈l:=List.mem_of_getElem? (ak h)
theorem di{α:Type} [Inhabited α]{l:List α}{i:Int}{z:α}{P:α->Prop}(h:∀x∈l,P x) (e:z=gel l i) (hi:0<=i/\i<(l.length:Int)):P z:=by
 rw[e]
 exact h _ (cu hi)
end Go.Sp
end
section
namespace Go.Sp
open Go.Stp Go.ValP
structure Pt where
 k:Int
 t:List UInt8
 s:List UInt8
def tx:List Pt->List UInt8
 |[]=>[]
 |p::ps=>p.t++tx ps
def wI(i:Nat):List Pt->List Tk
 |[]=>[]
 |p::ps=>⟨p.k,p.s,i⟩::wI (i+p.t.length) ps
def ph(p:Pt) (R:List UInt8):Prop:=eM (p.t++R)=some (⟨p.k,p.s,0⟩,(p.t.length:Int))/\∃b r,p.t=b::r/\b≠32
def LxA:List Pt->List UInt8->Prop
 |[],_=>True
 |p::ps,R=>ph p (tx ps++R)/\LxA ps R
theorem dJ(ps qs:List Pt):tx (ps++qs)=tx ps++tx qs:=by
 induction ps with
 |nil=>rfl
 |cons p ps f=>rw[List.cons_append,tx,f,tx,List.append_assoc]
theorem LxA.app{ps qs:List Pt}{R:List UInt8}(h:LxA ps (tx qs++R)) (k:LxA qs R):LxA (ps++qs) R:=by
 induction ps with
 |nil=>exact k
 |cons p ps f=>
  refine⟨?_,f h.2⟩
  show ph p (tx (ps++qs)++R)
  rw[dJ,List.append_assoc]
  exact h.1
theorem vN(ps qs:List Pt):∀i,wI i (ps++qs)=wI i ps++wI (i+(tx ps).length) qs:=by
 induction ps with
 |nil=>intro i;rfl
 |cons p ps f=>
  intro i
  rw[List.cons_append,wI,f,wI,tx,List.length_append,List.cons_append,Nat.add_assoc]
theorem lr{l r:List UInt8}{b:UInt8}{i:Int}(h:i=(l.length:Int)):bt (l++b::r) i=(b.toNat:Int):=by
 subst h
 simp[bt,List.getD]
theorem toNat_ne{b c:UInt8}(h:b≠c):(b.toNat:Int)≠(c.toNat:Int):=λe=>h (UInt8.toNat_inj.1 oM)
theorem tz{x:List UInt8}(h:200<x.length):i6 x=some ([],0,4):=by
 unfold i6
 have:decide (200<(x.length:Int))=true:=by rw[dT];omega
 rw[aa,if_pos this]
theorem wX{ps:List Pt}(h:LxA ps []) (hl:(tx ps).length<=200):i6 (tx ps)=some (wI 0 ps,0,0):=by
 have X:Ok (i6 (tx ps)) λr=>r=(wI 0 ps,0,0):=by
  unfold i6
  refine Ok.bv λz1 e1=>Ok.it (λc=>?_) λ_=>Ok.bv λJ eJ=>Ok.bv λB eB=>?_
  · rw[e1,dT]at c
    omega
  refine Ok.lp (λs=>∃f F,ps=f++F/\s.1=((tx f).length:Int)/\s.2=wI 0 f/\LxA F []/\s.2.length<=(tx f).length) (λs=>(tx ps).length-s.1.toNat) ⟨[],ps,O,O,O,h,Nat.le_refl _⟩ (by dsimp only;omega) ?_
  rintro s ⟨f,F,rfl,u,Y,h3,h4⟩ next hn
  rw[dJ]at hl hn
  have G:=hl
  rw[List.length_append]at G
  rw[eB]
  refine Ok.bv λz e=>Ok.it (λc=>?_) λc=>?_
  · rw[e,u,dT,dJ,List.length_append]at c
    cases F with
    |nil=>rw[tx]at c;simp at c
    |cons p p3=>
     obtain⟨⟨g1,b,r,H,g3⟩,g4⟩:=h3
     rw[List.append_nil]at g1
     have ex:tx (f++p::p3)=tx f++(p.t++tx p3):=by rw[dJ,tx]
     rw[tx,List.length_append]at G
     have hp:1<=p.t.length:=by rw[H];simp
     refine Ok.ck (by rw[u,dJ,List.length_append,tx,List.length_append];omega) (Ok.bv λz2 e2=>Ok.bv λz3 e3=>Ok.it (λc=>?_) λ_=>?_)
     · rw[e3,e2,ex,H,List.cons_append,lr u,dT]at c
       exact absurd c (toNat_ne (c:=32) g3)
     refine Ok.ck (by rw[u,dJ,List.length_append];omega) (Ok.bv λz4 e4=>?_)
     have a1:z4=p.t++tx p3:=by
      rw[e4,ex]
      unfold i_
      rw[Int.toNat_natCast,List.take_length,u,Int.toNat_natCast,List.drop_left]
     rw[a1,g1]
     refine Ok.os λy W=>Ok.bv λz5 e5=>Ok.it (λc=>?_) λ_=>?_
     · rw[e5,W,dT]at c
       dsimp only at c
       omega
     refine Ok.ck (by dsimp only[List.length_cons,List.length_nil];omega) (Ok.bv λz6 e6=>Ok.bv λz7 e7=>?_)
     have E:=(au e7).2 (by rw[u,W];dsimp only;omega)
     rw[u,W]at E
     dsimp only at E
     have et:wI 0 (f++[p])=z6:=by
      rw[vN,e6,W,Y,u,Nat.zero_add]
      rfl
     have el:(tx (f++[p])).length=(tx f).length+p.t.length:=by rw[dJ,List.length_append,tx,tx,List.append_nil]
     refine hn _ ⟨f++[p],p3,by simp,by rw[E,el];simp,et.symm,g4,?_⟩ ?_
     · dsimp only
       rw[el,<- et,vN,List.length_append,<- Y]
       simp only[wI,List.length_cons,List.length_nil]
       omega
     · dsimp only
       rw[E,u,List.length_append,tx,List.length_append]
       omega
  · rw[e,u,dF,dJ,List.length_append]at c
    cases F with
    |nil=>
     rw[eJ]
     refine Ok.sm ?_
     rw[Y,List.append_nil]
    |cons p p3=>
     obtain⟨⟨_,b,r,H,_⟩,_⟩:=h3
     rw[tx,H]at c
     simp at c
     omega
 obtain⟨v,hv,rfl⟩:=X
 exact hv
def isWd(x:Int):Bool:=((((decide (65<=x)&&decide (x<=90))||(decide (48<=x)&&decide (x<=57)))||decide (x=36))||decide (x=33))||decide (x=95)
def isDg(x:Int):Bool:=(decide (48<=x)&&decide (x<=57))||decide (x=46)
theorem sW(x:Int):js x=some (isWd x):=rfl
theorem Bu(x:Int):l8 x=some (isDg x):=rfl
theorem zk{p R:List UInt8}{f:Int->Option Bool}{g:Int->Bool}(Y:∀x,f x=some (g x)) (hp:∀b∈p,g b.toNat=true) (hR:∀b r,R=b::r->g b.toNat=false) (hl:(p++R).length<=1000):kD (p++R) f=some (p.length:Int):=by
 have E:=hl
 rw[List.length_append]at E
 have F:Ok (kD (p++R) f) λr=>r=(p.length:Int):=by
  unfold kD
  refine Ok.bv λJ eJ=>Ok.bv λB eB=>Ok.lp (λs=>∃i:Nat,s=(i:Int)/\i<=p.length) (λs=>p.length+1-s.toNat) ⟨0,O,Nat.zero_le _⟩ oM ?_
  rintro s ⟨i,rfl,hi⟩ next hn
  rw[eB]
  refine Ok.bv λz e=>Ok.it (λc=>?_) λc=>?_
  · rw[e,dT]at c
    refine Ok.ck oM (Ok.bv λz2 u=>?_)
    rw[Y]
    refine Ok.os λy H=>Ok.bv λz3 W=>Ok.it (λc3=>Ok.sm ?_) λc3=>Ok.bv λz4 e4=>?_
    · rcases Nat.lt_or_ge i p.length with h|h
      · obtain⟨G,b,X,rfl,rfl⟩:∃G b X,p=G++b::X/\G.length=i:=⟨p.take i,p[i],p.drop (i+1),by rw[List.getElem_cons_drop,List.take_append_drop],by simp;omega⟩
        rw[List.append_assoc,List.cons_append,lr rfl]at u
        rw[W,H,u,hp b (by simp)]at c3
        cases c3
      ·omega
    · rcases Nat.lt_or_ge i p.length with h|h
      · rw[(au e4).2 oM]
        exact hn _ ⟨i+1,oM,oM⟩ oM
      · obtain rfl:i=p.length:=oM
        cases R with
        |nil=>simp at c
        |cons b r=>
         rw[lr rfl]at u
         rw[W,H,u,hR b r rfl]at c3
         cases c3
  · rw[e,dF,List.length_append]at c
    rw[eJ]
    refine Ok.sm ?_
    rw[List.length_append]
    omega
 obtain⟨v,hv,rfl⟩:=F
 exact hv
theorem rH{p R:List UInt8}:i_ (p++R) 0 (p.length:Int)=p:=by simp[i_]
theorem yW{d R:List UInt8}(hd:∀b∈d,isDg b.toNat=true) (f:d≠[]) (G:∀b r,R=b::r->isDg b.toNat=false) (hl:(d++R).length<=1000):ph ⟨1,d,d⟩ R:=by
 obtain⟨b,r,rfl⟩:∃b r,d=b::r:=List.exists_cons_of_ne_nil f
 have E:=hd b (by simp)
 refine⟨?_,b,r,O,λe=>by subst e;exact absurd E (by decide)⟩
 have u:Ok (eM ((b::r)++R)) λv=>v=(⟨1,b::r,0⟩,((b::r).length:Int)):=by
  unfold eM
  refine Ok.ck (by simp;omega) (Ok.bv λz e=>Ok.bv λJ eJ=>Ok.bv λz1 H=>Ok.bv λz2 W=>Ok.bv λz3 X=>Ok.bv λz4 Y=>Ok.bv λz5 e5=>Ok.it (λ_=>?_) λc=>?_)
  · rw[zk Bu hd G hl]
    refine Ok.os λy F=>Ok.ck (by rw[F];simp;omega) (Ok.bv λz6 e6=>Ok.sm ?_)
    rw[e6,F,rH]
  · have h5:z5=isDg z:=by rw[e5,Y,X,W,H];rfl
    have h0:z=(b.toNat:Int):=by rw[e];rfl
    rw[h5,h0,E]at c
    cases c
 obtain⟨v,hv,rfl⟩:=u
 exact hv
theorem Bj{d R:List UInt8}{b:UInt8}{r:List UInt8}(e:d=b::r) (hd:∀b∈d,isWd b.toNat=true) (X:isDg b.toNat=false) (F:b≠33) (Y:∀b r,R=b::r->isWd b.toNat=false) (hl:(d++R).length<=1000):ph ⟨3,d,d⟩ R:=by
 subst e
 have f:=hd b (by simp)
 refine⟨?_,b,r,O,λe=>by subst e;exact absurd f (by decide)⟩
 have G:Ok (eM ((b::r)++R)) λv=>v=(⟨3,b::r,0⟩,((b::r).length:Int)):=by
  unfold eM
  refine Ok.ck (by simp;omega) (Ok.bv λz e=>Ok.bv λJ eJ=>Ok.bv λz1 e1=>Ok.bv λz2 e2=>Ok.bv λz3 e3=>Ok.bv λz4 e4=>Ok.bv λz5 e5=>?_)
  have u:z=(b.toNat:Int):=by rw[e];rfl
  have W:z5=isDg z:=by rw[e5,e4,e3,e2,e1];rfl
  rw[u]at W
  refine Ok.it (λc=>by rw[W,X]at c;cases c) λ_=>Ok.bv λz6 H=>Ok.it (λc=>?_) λ_=>Ok.bv λz7 e7=>Ok.it (λc=>?_) λ_=>?_
  · rw[H,u,dT]at c
    obtain rfl:b=34:=UInt8.toNat_inj.1 (by show b.toNat=34;omega)
    exact absurd f (by decide)
  · rw[e7,u,dT]at c
    obtain rfl:b=35:=UInt8.toNat_inj.1 (by show b.toNat=35;omega)
    exact absurd f (by decide)
  rw[sW,u,f]
  refine Ok.os λy E=>Ok.bv λz8 e8=>Ok.bv λz9 e9=>Ok.it (λ_=>?_) λc=>?_
  · rw[zk sW hd Y hl]
    refine Ok.os λy E=>Ok.ck (by rw[E];simp;omega) (Ok.bv λz6 H=>Ok.sm ?_)
    rw[H,E,rH]
  · rw[e9,E,e8,Bool.true_and,Bool.not_eq_eq_eq_not,Bool.not_false,dT]at c
    exact absurd c (toNat_ne (c:=33) F)
 obtain⟨v,hv,rfl⟩:=G
 exact hv
def eY:List UInt8->List UInt8
 |[]=>[]
 |b::r=>if b=34 then 34::34::eY r else b::eY r
theorem su(a b:List UInt8):eY (a++b)=eY a++eY b:=by
 induction a with
 |nil=>rfl
 |cons x a f=>
  rw[List.cons_append,eY,eY,f]
  split<;>rfl
theorem rS:∀s:List UInt8,s.length<=(eY s).length
 |[]=>Nat.le_refl _
 |x::s=>by
  have:=rS s
  rw[eY]
  split<;>simp only[List.length_cons]<;>omega
theorem AN{s R:List UInt8}(hR:∀b r,R=b::r->b≠34) (hl:(eY s++R).length<=1000):kj (34::(eY s++34::R))=some (s,((eY s).length:Int)+2):=by
 have hx:(34::(eY s++34::R)).length=(eY s).length+R.length+2:=by simp;omega
 rw[List.length_append]at hl
 have a6:Ok (kj (34::(eY s++34::R))) λv=>v=(s,((eY s).length:Int)+2):=by
  unfold kj
  refine Ok.bv λB eB=>Ok.lp (λq=>∃s1 f,s=s1++f/\q.1=s1/\q.2=((eY s1).length:Int)+1) (λq=>(eY s).length+2-q.2.toNat) ⟨[],s,O,O,O⟩ (by dsimp only;omega) ?_
  rintro q ⟨s1,f,rfl,h1,h2⟩ next hn
  rw[eB]
  have hd:=su s1 f
  have a7:(eY (s1++f)).length=(eY s1).length+(eY f).length:=by rw[hd,List.length_append]
  have ex:(34:UInt8)::(eY (s1++f)++34::R)=(34::eY s1)++(eY f++34::R):=by rw[hd];simp
  refine Ok.bv λz e=>Ok.it (λc=>?_) λc=>?_
  · rw[e,h2,dT,hx]at c
    omega
  refine Ok.ck oM (Ok.bv λz2 W=>Ok.bv λz3 e3=>?_)
  have u:∀w:Int,w=q.2+1->-9223372036854775808<=w/\w<=9223372036854775807:=λw hw=>oM
  have E:q.2=((34::eY s1).length:Int):=by rw[h2];simp
  cases f with
  |nil=>
   have ez:(34:UInt8)::(eY (s1++[])++34::R)=(34::eY s1)++34::R:=by simp
   rw[ez,lr E]at W
   refine Ok.it (λc=>by rw[e3,W]at c;cases c) λ_=>Ok.bv λz4 X=>Ok.bv λz5 Y=>Ok.bv λz6 e6=>?_
   have F:=(au e6).2 (u _ rfl)
   refine Ok.ck (λg=>by rw[Y,(au X).2 (u _ rfl),dT]at g;omega) (Ok.bv λz7 G=>Ok.bv λz8 e8=>Ok.bv λz9 e9=>Ok.it (λc=>?_) λ_=>Ok.bv λa8 H=>Ok.sm ?_)
   · rw[e9,bA,e8,dT,Y,dT,(au X).2 (u _ rfl)]at c
     cases R with
     |nil=>rw[hx]at c;simp[a7,eY]at c;omega
     |cons b r=>
      have ey:(34:UInt8)::(eY (s1++[])++34::b::r)=(34::eY s1++[34])++b::r:=by simp
      rw[ey,lr (by rw[F,E];simp)]at G
      rw[G]at c
      exact absurd c.2 (toNat_ne (c:=34) (hR b r O))
   · rw[(au H).2 (u _ rfl),h1,h2,List.append_nil]
     simp
     omega
  |cons b f=>
   by_cases hb:b=34
   · subst hb
     have ez:(34:UInt8)::(eY (s1++34::f)++34::R)=(34::eY s1)++34::(34::eY f++34::R):=by rw[hd,eY,if_pos rfl];simp
     rw[ez,lr E]at W
     refine Ok.it (λc=>by rw[e3,W]at c;cases c) λ_=>Ok.bv λz4 X=>Ok.bv λz5 Y=>Ok.bv λz6 e6=>?_
     have F:=(au e6).2 (u _ rfl)
     have ad:(eY (34::f)).length=(eY f).length+2:=by rw[eY,if_pos rfl];simp
     have g5:z5=true:=by rw[Y,(au X).2 (u _ rfl),dT];omega
     refine Ok.ck (λg=>oM) (Ok.bv λz7 G=>Ok.bv λz8 e8=>Ok.bv λz9 e9=>?_)
     have ey:(34:UInt8)::(eY (s1++34::f)++34::R)=(34::eY s1++[34])++34::(eY f++34::R):=by rw[hd,eY,if_pos rfl];simp
     rw[ey,lr (by rw[F,E];simp)]at G
     refine Ok.it (λ_=>?_) λc=>by rw[e9,e8,G,g5]at c;cases c
     have af:=rS s1
     refine Ok.ck (by rw[h1];simp only[List.length_cons,List.length_nil];omega) (Ok.bv λa8 H=>Ok.bv λb2 ao=>?_)
     have a1:=(au ao).2 oM
     have hm:(eY (s1++[34])).length=(eY s1).length+2:=by rw[su,List.length_append];rfl
     exact hn _ ⟨s1++[34],f,by simp,by rw[H,h1],by dsimp only;rw[a1,h2,hm];omega⟩ (by dsimp only;omega)
   · have J:eY (b::f)=b::eY f:=by rw[eY,if_neg hb]
     have ew:(34:UInt8)::(eY (s1++b::f)++34::R)=(34::eY s1)++b::(eY f++34::R):=by rw[hd,J];simp
     rw[ew,lr E]at W
     refine Ok.it (λ_=>Ok.bv λz4 X=>?_) λc=>?_
     · have b0:=(au X).2 (u _ rfl)
       have ad:(eY (b::f)).length=(eY f).length+1:=by rw[J];simp
       refine Ok.ck oM (Ok.bv λz5 Y=>?_)
       have h5:z5=[b]:=by
        have ez:(34:UInt8)::(eY (s1++b::f)++34::R)=(34::eY s1++[b])++(eY f++34::R):=by rw[hd,J];simp
        rw[Y,ez]
        unfold i_
        have:z4.toNat=(34::eY s1++[b]).length:=by rw[b0,E];simp;omega
        rw[this,List.take_left,E,Int.toNat_natCast,List.drop_left]
       have af:=rS s1
       refine Ok.ck (by rw[h5,h1];simp only[List.length_cons,List.length_nil];omega) (Ok.bv λz6 e6=>Ok.bv λz7 G=>?_)
       have b1:=(au G).2 (u _ rfl)
       have hm:(eY (s1++[b])).length=(eY s1).length+1:=by rw[su,List.length_append,eY,if_neg hb];rfl
       exact hn _ ⟨s1++[b],f,by simp,by rw[e6,h1,h5],by dsimp only;rw[b1,h2,hm];omega⟩ (by dsimp only;omega)
     · rw[e3,W,Bool.not_eq_eq_eq_not,Bool.not_false,dT]at c
       exact absurd c (toNat_ne (c:=34) hb)
 obtain⟨v,hv,rfl⟩:=a6
 exact hv
theorem De{s R:List UInt8}(E:∀b r,R=b::r->b≠34) (hl:(eY s++R).length<=1000):ph ⟨2,34::(eY s++[34]),s⟩ R:=by
 refine⟨?_,34,_,O,by decide⟩
 have F:(34:UInt8)::(eY s++[34])++R=34::(eY s++34::R):=by simp
 have f:Ok (eM (34::(eY s++[34])++R)) λv=>v=(⟨2,s,0⟩,((34::(eY s++[34])).length:Int)):=by
  rw[F]
  unfold eM
  refine Ok.ck (by simp;omega) (Ok.bv λz e=>Ok.bv λJ eJ=>Ok.bv λz1 G=>Ok.bv λz2 H=>Ok.bv λz3 W=>Ok.bv λz4 X=>Ok.bv λY e5=>?_)
  have u:z=34:=by rw[e];rfl
  have h5:Y=false:=by rw[e5,X,W,H,G,u];rfl
  refine Ok.it (λc=>by rw[h5]at c;cases c) λ_=>Ok.bv λz6 e6=>Ok.it (λ_=>?_) λc=>by rw[e6,u]at c;cases c
  rw[AN E hl]
  refine Ok.os λy ey=>Ok.sm ?_
  rw[ey]
  simp
  omega
 obtain⟨v,hv,rfl⟩:=f
 exact hv
def uE:List (List UInt8):=[[60,62],[60,61],[62,61],[43],[45],[42],[47],[38],[61],[60],[62],[37],[40],[41],[44],[58]]
theorem C1:Lib.fields wh=uE:=by decide +kernel
theorem xd{α:Type}{f:α->Bool}{l:List α}{i:Nat}(hi:i<l.length) (h:f l[i]=false):(l.drop (i+1)).find? f=(l.drop i).find? f:=by
 rw[List.drop_eq_getElem_cons hi,List.find?_cons,h]
theorem AY{x g:List UInt8}{b:UInt8}{r:List UInt8}(H:x=b::r) (h1:isDg b.toNat=false) (h2:b≠34) (h3:b≠35) (h4:isWd b.toNat=false) (hf:uE.find? (Lib.hasPrefix x)=some g):eM x=some (⟨4,g,0⟩,(g.length:Int)):=by
 subst H
 have W:Ok (eM (b::r)) λv=>v=(⟨4,g,0⟩,(g.length:Int)):=by
  unfold eM
  refine Ok.ck (by rw[List.length_cons];omega) (Ok.bv λz e=>Ok.bv λJ eJ=>Ok.bv λz1 e1=>Ok.bv λz2 u=>Ok.bv λz3 X=>Ok.bv λz4 e4=>Ok.bv λz5 e5=>?_)
  have E:z=(b.toNat:Int):=by rw[e];rfl
  have h5:z5=isDg z:=by rw[e5,e4,X,u,e1];rfl
  rw[E]at h5
  refine Ok.it (λc=>by rw[h5,h1]at c;cases c) λ_=>Ok.bv λz6 e6=>Ok.it (λc=>?_) λ_=>Ok.bv λz7 e7=>Ok.it (λc=>?_) λ_=>?_
  · rw[e6,E,dT]at c
    exact absurd c (toNat_ne (c:=34) h2)
  · rw[e7,E,dT]at c
    exact absurd c (toNat_ne (c:=35) h3)
  rw[sW,E,h4]
  refine Ok.os λy ey=>Ok.bv λz8 e8=>Ok.bv λz9 e9=>Ok.it (λc=>by rw[e9,ey,Bool.false_and]at c;cases c) λ_=>?_
  rw[eJ]
  refine Ok.bv λJ7 e7=>Ok.ck (by decide) (Ok.bv λF eF=>Ok.bv λB eB=>?_)
  rw[C1]at eF
  subst eF
  refine Ok.lp (λs=>∃i:Nat,s.1=(i:Int)/\i<=uE.length/\(uE.drop i).find? (Lib.hasPrefix (b::r))=some g) (λs=>20-s.1.toNat) ⟨0,O,by decide,hf⟩ (by dsimp only;omega) ?_
  rintro s ⟨i,G,i2,f⟩ next hn
  have hL:uE.length=16:=rfl
  rw[eB]
  refine Ok.bv λz e=>Ok.it (λc=>?_) λc=>?_
  · rw[e,G,dT]at c
    have hi:i<uE.length:=oM
    refine Ok.ck oM (Ok.bv λx H=>Ok.bv λz2 u=>?_)
    have hx:x=uE[i]:=by
     rw[H,G]
     have:=ak (l:=uE) (i:=(i:Int)) oM
     rw[Int.toNat_natCast,List.getElem?_eq_getElem hi]at this
     exact(Option.some.inj this).symm
    refine Ok.it (λc2=>Ok.sm ?_) λc2=>Ok.bv λz3 X=>?_
    · rw[List.drop_eq_getElem_cons hi,List.find?_cons,<- hx,<- u,c2]at f
      cases f
      rfl
    · rw[<-xd hi (by rw[<-hx,<- u,c2])]at f
      have Y:=(au X).2 oM
      exact hn _ ⟨i+1,by rw[Y,G];rfl,oM,f⟩ (by dsimp only;omega)
  · rw[e,G,dF]at c
    rw[List.drop_of_length_le oM]at f
    cases f
 obtain⟨v,hv,rfl⟩:=W
 exact hv
theorem vQ{g R:List UInt8}(E:g∈uE) (F:g=[60]->∀b r,R=b::r->b≠62/\b≠61) (G:g=[62]->∀b r,R=b::r->b≠61):ph ⟨4,g,g⟩ R:=by
 have H:∀{b:UInt8}{r:List UInt8},g=b::r->isDg b.toNat=false->b≠34->b≠35->isWd b.toNat=false->b≠32->uE.find? (Lib.hasPrefix (g++R))=some g->ph ⟨4,g,g⟩ R:=λe J W X Y a5 hf=>⟨AY (by rw[e,List.cons_append]) J W X Y hf,_,_,e,a5⟩
 have f:g=[60]->Lib.hasPrefix R [62]=false/\Lib.hasPrefix R [61]=false:=λe=>by
  cases R with
  |nil=>exact⟨O,O⟩
  |cons b r=>
   have:=F e b r rfl
   simp[Lib.hasPrefix,List.isPrefixOf,Ne.symm this.1,Ne.symm this.2]
 have u:g=[62]->Lib.hasPrefix R [61]=false:=λe=>by
  cases R with
  |nil=>rfl
  |cons b r=>
   have:=G e b r rfl
   simp[Lib.hasPrefix,List.isPrefixOf,Ne.symm this]
 simp only[Lib.hasPrefix]at f u
 simp only[uE,List.mem_cons,List.not_mem_nil,or_false]at E
 rcases E with rfl|rfl|rfl|rfl|rfl|rfl|rfl|rfl|rfl|rfl|rfl|rfl|rfl|rfl|rfl|rfl
 all_goals refine H O (by decide) (by decide) (by decide) (by decide) (by decide) ?_
 all_goals first
  |simp[uE,List.find?,Lib.hasPrefix,List.isPrefixOf];done
  |simp[uE,List.find?,Lib.hasPrefix,List.isPrefixOf,(f rfl).1,(f rfl).2];done
  |simp[uE,List.find?,Lib.hasPrefix,List.isPrefixOf,u rfl]
def tg:List (List UInt8):=[[35,68,73,86,47,48,33],[35,86,65,76,85,69,33],[35,82,69,70,33],[35,78,65,77,69,63],[35,78,85,77,33],[35,78,47,65],[35,67,89,67,76,69,33]]
theorem AF:((List.range 7).all λi=>decide (dK ((i+1:Nat):Int)=some (gel tg (i:Int))))=true:=by decide +kernel
theorem E2{i:Int}(h:1<=i/\i<=7):dK i=some (gel tg (i-1)):=by
 have:=List.all_eq_true.1 AF (i-1).toNat (by simp;omega)
 rw[dT]at this
 have e:(((i-1).toNat+1:Nat):Int)=i:=oM
 have f:(((i-1).toNat:Nat):Int)=i-1:=oM
 rw[e,f]at this
 exact this
theorem CN{c i:Int}{R:List UInt8}(h:1<=i/\i<c/\c<=7):Lib.hasPrefix (gel tg (c-1)++R) (gel tg (i-1))=false:=by
 have f:c=2\/c=3\/c=4\/c=5\/c=6\/c=7:=oM
 have hi:i=1\/i=2\/i=3\/i=4\/i=5\/i=6:=oM
 rcases f with rfl|rfl|rfl|rfl|rfl|rfl<;>rcases hi with rfl|rfl|rfl|rfl|rfl|rfl<;>first|omega|rfl
theorem zY{p R:List UInt8}:Lib.hasPrefix (p++R) p=true:=by
 unfold Lib.hasPrefix
 rw[List.isPrefixOf_iff_prefix]
 exact List.prefix_append p R
theorem CL{c:Int}{R:List UInt8}(h:1<=c/\c<=7):ph ⟨5,gel tg (c-1),gel tg (c-1)⟩ R:=by
 obtain⟨r,u⟩:∃r,gel tg (c-1)=35::r:=by
  have X:c=1\/c=2\/c=3\/c=4\/c=5\/c=6\/c=7:=oM
  rcases X with rfl|rfl|rfl|rfl|rfl|rfl|rfl<;>exact⟨_,O⟩
 refine⟨?_,35,r,u,by decide⟩
 have E:Ok (eM (gel tg (c-1)++R)) λv=>v=(⟨5,gel tg (c-1),0⟩,((gel tg (c-1)).length:Int)):=by
  unfold eM
  refine Ok.ck (by rw[u];simp;omega) (Ok.bv λz e=>Ok.bv λJ eJ=>Ok.bv λz1 Y=>Ok.bv λz2 f=>Ok.bv λz3 F=>Ok.bv λz4 e4=>Ok.bv λz5 e5=>?_)
  have G:z=35:=by rw[e,u];rfl
  have h5:z5=false:=by rw[e5,e4,F,f,Y,G];rfl
  refine Ok.it (λc=>by rw[h5]at c;cases c) λ_=>Ok.bv λz6 e6=>Ok.it (λc=>by rw[e6,G]at c;cases c) λ_=>Ok.bv λz7 e7=>Ok.it (λ_=>?_) λc=>by rw[e7,G]at c;cases c
  refine Ok.bv λJ8 e8=>Ok.bv λB eB=>Ok.lp (λs=>1<=s.1/\s.1<=c) (λs=>10-s.1.toNat) ⟨by decide,h.1⟩ (by dsimp only;omega) ?_
  rintro s ⟨i1,i2⟩ next hn
  rw[eB]
  refine Ok.bv λz e=>Ok.it (λ_=>?_) λc0=>by rw[e,dF]at c0;omega
  rw[E2 oM]
  refine Ok.os λy H=>Ok.bv λz2 f=>Ok.it (λc2=>Ok.sm ?_) λc2=>Ok.bv λz3 F=>?_
  · have:s.1=c:=by
     by_cases W:s.1<c
     · rw[f,H,CN ⟨i1,W,h.2⟩]at c2
       cases c2
     ·omega
    rw[H,this]
  · have:s.1≠c:=λg=>by
     rw[f,H,g,zY]at c2
     cases c2
    have a1:=(au F).2 oM
    exact hn _ ⟨by dsimp only;omega,by dsimp only;omega⟩ (by dsimp only;omega)
 obtain⟨v,hv,rfl⟩:=E
 exact hv
theorem gG(k:Nat) (r:Rn) (n:Nd) (m:List (C × Bool)):aM (k+1) r n m=aW (aM k) r n m:=rfl
abbrev r0:Rf:=⟨⟨0,0,0⟩,false,false⟩
theorem Cq(k:Nat) (R:Rn) (v:V) (m:List (C × Bool)):aM (k+1) R ⟨1,0,v,r0,r0,[],[]⟩ m=some (⟨v,R.c⟩,m):=by
 rw[gG]
 simp[aW,aa,obind,aK]
theorem C0(k:Nat) (R:Rn) (op:Int) (v:V) (a b:Rf) (nm:List UInt8) (l:List Nd) (m:List (C × Bool)) (f:op<=5):aM (k+1) R ⟨8,op,v,a,b,nm,l⟩ m=obind (aF (aM k) R ⟨8,op,v,a,b,nm,l⟩ m) λy=>some (y.1,y.2):=by
 rw[gG]
 simp[aW,aa,f]
theorem tX(op:Int) (l:List Nd) (hl:l.length<=4000):g9 op l=some ⟨8,op,⟨0,0,[]⟩,r0,r0,[],l⟩:=by
 unfold g9
 simp only[aJ,aa,List.nil_append,List.length_nil,Nat.zero_add]
 rw[if_pos oM]
theorem q9{x:Nat}(h:x<18446744073709551616) (f:x≠0):1<=Lib.bitLen x/\Lib.bitLen x<=64/\2 ^ (Lib.bitLen x-1)<=x/\x<2 ^ Lib.bitLen x:=by
 obtain⟨u,E,F⟩:=Lib.bitLenAux_bounds 64 x h f
 exact⟨u,Lib.bitLen_le x 64 (Nat.le_refl _) h,E,F⟩
theorem ya{y z:Int}(h:0<y/\y<=18446744073709551615) (e:z=vq .u64 y (64-(Lib.bitLen y.toNat:Int))):9223372036854775808<=z/\z<=18446744073709551615:=by
 obtain⟨Y,rfl⟩:=Int.eq_ofNat_of_zero_le (show 0<=y by omega)
 obtain⟨J,W,f,u⟩:=q9 (x:=Y) oM oM
 rw[Int.toNat_natCast]at e
 generalize Lib.bitLen Y=b at *
 have E:min (64-(b:Int)).toNat (IntKind.u64.bits)=64-b:=by
  have:IntKind.u64.bits=64:=rfl
  rw[this]
  omega
 unfold vq at e
 rw[E]at e
 have F:(2:Nat) ^ (b-1)*2 ^ (64-b)=2 ^ 63:=by rw[<-Nat.pow_add];congr 1;omega
 have G:(2:Nat) ^ b*2 ^ (64-b)=2 ^ 64:=by rw[<-Nat.pow_add];congr 1;omega
 have X:2 ^ 63<=Y*2 ^ (64-b):=by rw[<-F];exact Nat.mul_le_mul_right _ f
 have h6:Y*2 ^ (64-b)<2 ^ 64:=by rw[<-G];exact Nat.mul_lt_mul_of_pos_right u (Nat.pow_pos (by decide))
 have H:((Y:Int)*2 ^ (64-b))=((Y*2 ^ (64-b):Nat):Int):=by simp
 rw[H]at e
 have w:=j0 e
 have:=w.2 oM
 omega
theorem D9{z x:Int}(h:0<=x) (e:z=qQ .u64 x 32):z=x / 4294967296:=by
 subst e
 unfold qQ
 have:min (32:Int).toNat (IntKind.u64.bits)=32:=rfl
 rw[this,Int.fdiv_eq_ediv_of_nonneg _ (by decide)]
 rfl
theorem CC{z x q:Int}(h:0<=x/\x<=18446744073709551615) (e:z=qQ .u64 x q):0<=z/\z<=18446744073709551615:=by
 subst e
 unfold qQ
 have hp:(0:Int)<2 ^ (min q.toNat (IntKind.u64.bits)):=Int.pow_pos (by decide)
 rw[Int.fdiv_eq_ediv_of_nonneg _ oM]
 refine⟨Int.ediv_nonneg h.1 oM,Int.le_trans (Int.ediv_le_self _ h.1) h.2⟩
theorem pr(x0 x1 F:Int) (h0:0<=x0/\x0<F) (h1:0<=x1/\x1<=18446744073709551615) (h2:F<=18446744073709551615) :
 Ok (jf x0 x1 F) (λr=>(0<=r.1/\r.1<=18446744073709551615)/\0<=r.2/\r.2<=18446744073709551615):=by
 unfold jf
 refine Ok.bv λJ2 a8=>Ok.bv λz0 ad=>Ok.it (λe=>?_) (λ_=>?_)
 ·rw[ad]at e;simp at e;omega
 rw[a8]
 refine Ok.bv λJ4 af=>Ok.bv λz1 ao=>Ok.it (λe=>?_) (λ_=>?_)
 ·rw[ao]at e;simp at e;omega
 rw[af]
 refine Ok.bv λz2 dz=>Ok.it (λe=>?_) (λe=>?_)
 · refine Ok.ck oM (Ok.bv λq eq=>Ok.ck oM (Ok.bv λr er=>Ok.sm ?_))
   have:=j0 eq
   have t:=o7 x1 (c:=F) oM
   have:=t.2.2.2.1 h1.1
   exact⟨(j0 eq).1,oM⟩
 refine Ok.ck oM (Ok.bv λs es=>Ok.bv λs' b0=>?_)
 obtain⟨b1,b2,b3,b4⟩:=q9 (x:=F.toNat) oM oM
 have w:=j0 b0
 have hs:s'=64-(Lib.bitLen F.toNat:Int):=by rw[w.2 oM,es]
 refine Ok.ck oM (Ok.bv λy ey=>Ok.ck (by decide) (Ok.bv λe0 G=>Ok.bv λe1 cy=>Ok.ck oM (Ok.bv λe2 e3=>Ok.bv λe4 b5=>?_)))
 rw[hs]at ey
 have hy:=ya oM ey
 have da:=D9 oM G
 have b6:=j0 b5
 have e5:=b6.2 oM
 refine Ok.ck oM (Ok.bv λe6 e7=>Ok.bv λdd e8=>Ok.ck oM (Ok.bv λdj e9=>Ok.ck (by decide) (Ok.bv λea eb=>Ok.bv λec ed=>Ok.ck oM (Ok.bv λq1 ef=>Ok.bv λei ej=>Ok.bv λrh H=>?_))))
 refine Ok.bv λb7 J=>?_
 have hJ:∀q,Ok (b7 q) (λr=>(0<=r.1/\r.1<=18446744073709551615)/\0<=r.2/\r.2<=18446744073709551615):=by
  intro q
  rw[J]
  refine Ok.bv λel eo=>Ok.bv λep et=>Ok.bv λeu ew=>Ok.bv λez eF=>Ok.ck oM (Ok.bv λq0 eJ=>Ok.bv λdn dv=>Ok.bv λeZ f=>Ok.bv λbb W=>?_)
  have X:∀q',Ok (bb q') (λr=>(0<=r.1/\r.1<=18446744073709551615)/\0<=r.2/\r.2<=18446744073709551615):=by
   intro q'
   rw[W]
   refine Ok.bv λa1 ff=>Ok.bv λa2 bk=>Ok.bv λa3 fs=>Ok.bv λa4 gb=>Ok.bv λa5 gf=>Ok.bv λa6 bq=>Ok.ck oM (Ok.bv λa7 bs=>Ok.sm ⟨(j0 bk).1,CC (j0 bq).1 bs⟩)
  refine Ok.bv λB eB=>?_
  subst eB
  refine Ok.lp (λs=>0<=s.1/\s.1<=18446744073709551615) (λs=>if s.1<4294967296 then(4294967296-s.1).toNat else 4294967297) (j0 f).1 (by have:=(j0 f).1;simp only;split<;>omega) λs hI next ih=>?_
  refine Ok.bv λc1 c7=>Ok.bv λc2 c8=>Ok.bv λc3 cc=>Ok.bv λc4 ch=>Ok.bv λc5 cp=>Ok.bv λc6 ct=>Ok.it (λ_=>?_) (λ_=>X _)
  refine Ok.bv λd1 cx=>Ok.bv λd2 u=>Ok.bv λd3 E=>Ok.it (λ_=>X _) (λe=>?_)
  rw[E]at e
  simp at e
  have Y:=j0 u
  refine ih _ Y.1 ?_
  simp only
  rw[if_pos e]
  split
  ·have:=Y.2 oM;omega
  ·omega
 refine Ok.bv λB eB=>?_
 subst eB
 refine Ok.lp (λs=>0<=s.2/\s.2<=18446744073709551615) (λs=>if s.2<4294967296 then(4294967296-s.2).toNat else 4294967297) (j0 H).1 (by have:=(j0 H).1;simp only;split<;>omega) λs hI next ih=>?_
 refine Ok.bv λc1 c7=>Ok.bv λc2 c8=>Ok.bv λc3 cc=>Ok.bv λc4 ch=>Ok.bv λc5 cp=>Ok.bv λc6 ct=>Ok.it (λ_=>?_) (λ_=>hJ _)
 refine Ok.bv λd1 cx=>Ok.bv λd2 u=>Ok.bv λd3 E=>Ok.it (λ_=>hJ _) (λe=>?_)
 rw[E]at e
 simp at e
 have Y:=j0 u
 refine ih _ Y.1 ?_
 simp only
 rw[if_pos e]
 split
 ·have:=Y.2 oM;omega
 ·omega
theorem C8(s:ByteArray) (pos:Nat) (h:pos<s.size):1<=(Utf8.decode s pos).2:=by
 by_cases f:(s[pos]'h).toNat<128
 · rw[Go.decode_ascii s pos h f]
   exact Nat.le_refl _
 ·exact(Go.decode_high s pos h oM).2
theorem uI{l:List UInt8}{p:Nat}(h:p<l.length):p<iN l p:=by
 unfold iN
 rw[if_pos h]
 have:=C8 ⟨l.toArray⟩ p h
 omega
theorem ir{x:Int}(h:-9223372036854775808<=x/\x<=9223372036854775807):Ok (f_ x) (λy=>(x<0->y=-x)/\(0<=x->y=x)):=by
 unfold f_
 refine Ok.bv λz u=>Ok.it (λe=>Ok.bv λa f=>Ok.bv λb E=>Ok.sm ?_) (λe=>Ok.bv λa f=>Ok.sm ?_)
 · simp[u]at e
   have F:=j0 E
   simp[IntKind.wrap,IntKind.bits,IntKind.signed]at f E
   omega
 · simp[u]at e
   have:=(j0 f).2
   omega
theorem jB{x:Int}{b:Bool}(h:0<=x/\x<=18446744073709551615):Ok (dQ x b) (λr=>-9223372036854775807<=r.1/\r.1<=9223372036854775807):=by
 unfold dQ
 refine Ok.bv λz u=>Ok.it (λe=>Ok.sm ⟨by decide,by decide⟩) (λe=>?_)
 simp[u]at e
 refine Ok.it (λ_=>Ok.bv λa f=>Ok.bv λc E=>Ok.sm ?_) (λ_=>Ok.bv λa f=>Ok.sm ?_)
 · have F:=(au f).2 oM
   have G:=(au E).2 oM
   simp only
   omega
 · have F:=(au f).2 oM
   simp only
   omega
theorem lq(x y:Int):Ok (kL x y) (λr=>r.2=true->-9223372036854775807<=r.1/\r.1<=9223372036854775807):=by
 unfold kL m7
 refine Ok.bv λz f=>Ok.ob (R:=λb=>b=true->-9223372036854775807<=z) (Ok.bv λc u=>Ok.sm λe=>by simp[u]at e;exact e) λb G E=>Ok.bv λH J=>Ok.bv λW X=>Ok.bv λY e3=>Ok.bv λz4 F=>Ok.sm λe=>?_
 simp only at e
 rw[F]at e
 simp at e
 exact⟨E e.1,(au f).1.2⟩
theorem oD(x y:Int):Ok (l_ x y) (λr=>r.2=true->-9223372036854775807<=r.1/\r.1<=9223372036854775807):=by
 unfold l_
 exact Ok.bv λz u=>Ok.ob (lq x z) λb E f=>Ok.sm f
theorem lD{x y c:Int}(f:0<=x/\x<=18446744073709551615) (hy:0<=y/\y<=18446744073709551615) (F:0<c/\c<=18446744073709551615) :
 Ok (gZ x y c) (λr=>0<=r.1/\r.1<=18446744073709551615):=by
 unfold gZ
 refine Ok.ck ⟨f,hy⟩ (Ok.bv λz u=>Ok.bv λb G=>Ok.it (λ_=>Ok.sm ⟨by decide,by decide⟩) (λe=>?_))
 simp[G]at e
 have H:0<=z.1:=by rw[u];exact Int.ediv_nonneg (Int.mul_nonneg f.1 hy.1) (by decide)
 have W:0<=z.2/\z.2<=18446744073709551615:=by rw[u];simp only;omega
 refine Ok.ob (pr z.1 z.2 c ⟨H,e⟩ W F.2) λr er X=>Ok.bv λJ Y=>?_
 have E:∀s,0<=s/\s<=18446744073709551615->Ok (J s) (λr=>0<=r.1/\r.1<=18446744073709551615):=by
  intro s hs
  rw[Y]
  exact Ok.bv λ_ _=>Ok.bv λ_ _=>Ok.bv λ_ _=>Ok.bv λ_ _=>Ok.sm hs
 exact Ok.bv λ_ _=>Ok.bv λ_ _=>Ok.it (λ_=>Ok.bv λq eq=>E q (j0 eq).1) (λ_=>E _ X.1)
theorem lH{x y:Int}(f:-9223372036854775808<=x/\x<=9223372036854775807) (hy:-9223372036854775808<=y/\y<=9223372036854775807):Ok (kB x y) (λr=>-9223372036854775807<=r.1/\r.1<=9223372036854775807):=by
 unfold kB
 refine Ok.ob (ir f) λa F G=>Ok.ob (ir hy) λb H J=>Ok.ob (lD oM oM ⟨by decide,by decide⟩) λr W u=>Ok.bv λz X=>Ok.it (λ_=>Ok.sm ⟨by decide,by decide⟩) (λ_=>?_)
 exact Ok.bv λ_ _=>Ok.bv λ_ _=>Ok.bv λ_ _=>Ok.ob (jB u) λq eq E=>Ok.sm E
theorem lB{x y:Int}(u:-9223372036854775808<=x/\x<=9223372036854775807) (hy:-9223372036854775808<=y/\y<=9223372036854775807):Ok (kF x y) (λr=>-9223372036854775807<=r.1/\r.1<=9223372036854775807):=by
 unfold kF
 refine Ok.bv λz f=>Ok.it (λ_=>Ok.sm ⟨by decide,by decide⟩) (λe=>?_)
 simp[f]at e
 refine Ok.ob (ir u) λa G H=>Ok.ob (ir hy) λb J W=>Ok.ob (lD oM ⟨by decide,by decide⟩ oM) λr X E=>Ok.bv λz f=>Ok.it (λ_=>Ok.sm ⟨by decide,by decide⟩) (λ_=>?_)
 exact Ok.bv λ_ _=>Ok.bv λ_ _=>Ok.bv λ_ _=>Ok.ob (jB E) λq eq F=>Ok.sm F
theorem qU(t:List UInt8) (ht:t.length<=9223372036854775807):Ok (cv t) (λr=>-9223372036854775807<=r.1/\r.1<=9223372036854775807):=by
 unfold cv
 refine Ok.bv λJ2 E=>Ok.bv λB eB=>?_
 have F:∀s:Int × Int × Int,0<=s.1/\s.1<=18446744073709551615->Ok (J2 s) (λr=>-9223372036854775807<=r.1/\r.1<=9223372036854775807):=by
  intro s hs
  rw[E]
  refine Ok.bv λJ4 G=>Ok.bv λm em=>Ok.bv λB eB=>?_
  have H:∀v:Int,0<=v/\v<=18446744073709551615->Ok (J4 v) (λr=>-9223372036854775807<=r.1/\r.1<=9223372036854775807):=by
   intro v hv
   rw[G]
   exact Ok.bv λ_ _=>Ok.bv λ_ _=>Ok.bv λ_ _=>Ok.it (λ_=>Ok.sm ⟨by decide,by decide⟩) (λ_=>Ok.ob (jB hv) λq eq hq=>Ok.sm hq)
  subst eB
  refine Ok.lp (λs=>(0<=s.1/\s.1<=18446744073709551615)/\0<=s.2) (λs=>(6-s.2).toNat) ⟨hs,by simp only;omega⟩ (by simp only;omega) λs u next ih=>?_
  refine Ok.bv λc W=>Ok.it (λe=>?_) (λ_=>H _ u.1)
  simp[W]at e
  refine Ok.ck ⟨u.1,by decide,by decide⟩ (Ok.bv λq eq=>Ok.bv λ_ _=>Ok.it (λ_=>Ok.sm ⟨by decide,by decide⟩) (λ_=>Ok.bv λi X=>?_))
  have hi:=(au X).2 oM
  refine ih _ ⟨by rw[eq];simp only;omega,by simp only;omega⟩ (by simp only;omega)
 subst eB
 refine Ok.lp (λs=>0<=s.1/\s.1<=18446744073709551615) (λs=>t.length-s.2.2.2) ⟨by decide,by decide⟩ (by simp only;omega) λs u next ih=>?_
 refine Ok.bv λc W=>Ok.it (λe=>?_) (λ_=>F _ u)
 rw[W,dT]at e
 have hn:=uI e
 refine Ok.bv λJ eJ=>?_
 have Y:∀s',Ok (J s') (λr=>-9223372036854775807<=r.1/\r.1<=9223372036854775807):=by
  intro s'
  rw[eJ]
  refine Ok.ck ⟨u,by decide,by decide⟩ (Ok.bv λq eq=>Ok.bv λd ed=>Ok.bv λf ef=>Ok.ck ⟨?_,?_,by decide,by decide⟩ (Ok.bv λg eg=>Ok.bv λ_ _=>Ok.bv λ_ _=>Ok.it (λ_=>Ok.sm ⟨by decide,by decide⟩) (λ_=>Ok.bv λi X=>?_)))
  ·rw[eq];simp only;omega
  ·exact(j0 ef).1.1
  refine ih _ ?_ (by simp only;omega)
  rw[eg];simp only;omega
 refine Ok.bv λ_ _=>Ok.bv λ_ _=>Ok.bv λ_ _=>Ok.it (λ_=>ih _ u (by simp only;omega)) (λ_=>?_)
 exact Ok.bv λ_ _=>Ok.bv λ_ _=>Ok.bv λ_ _=>Ok.bv λ_ _=>Ok.bv λ_ _=>Ok.it (λ_=>Ok.sm ⟨by decide,by decide⟩) (λ_=>Ok.bv λ_ _=>Ok.it (λ_=>Ok.bv λ_ _=>Y _) (λ_=>Y _))
theorem pi{l m:List Int}(h:bS l=true) (k:bS m=true):bS (l++m)=true:=by
 unfold bS at *
 rw[List.all_append,h,k];rfl
theorem BD{z:Int}(h:0<=z/\z<=255):bS [z]=true:=by
 simp[bS];exact h
theorem wM{l:List Int}(h:bS l=true) (i:Int):0<=gel l i/\gel l i<=255:=by
 unfold bS at h
 rw[List.all_eq_true]at h
 unfold gel
 by_cases hi:i.toNat<l.length
 · rw[List.getD_eq_getElem?_getD,List.getElem?_eq_getElem hi]
   have:=h _ (List.getElem_mem hi)
   simpa using this
 · rw[List.getD_eq_getElem?_getD,List.getElem?_eq_none oM]
   exact⟨by decide,by decide⟩
theorem sG{l:List Int}(h:bS l=true) (i:Nat){z:Int}(hz:0<=z/\z<=255):bS (l.set i z)=true:=by
 unfold bS at *
 rw[List.all_eq_true]at *
 intro x f
 rcases List.mem_or_eq_of_mem_set f with h'|h'
 ·exact h x h'
 ·rw[h'];simpa using hz
theorem qx{x:Int}(hx:-9223372036854775808<=x/\x<=9223372036854775807):Ok (cM x) (λr=>r.length<=41):=by
 unfold cM
 refine Ok.ob (ir hx) λy ey hy=>Ok.bv λJ4 a1=>Ok.bv λB eB=>?_
 have a6:∀s:List Int,bS s=true/\s.length<=40->Ok (J4 s) (λr=>r.length<=41):=by
  intro s hs
  rw[a1]
  refine Ok.bv λJ7 a7=>?_
  have G:∀s:List Int,bS s=true/\s.length<=41->Ok (J7 s) (λr=>r.length<=41):=by
   intro s hs
   rw[a7]
   refine Ok.bv λa8 H=>Ok.bv λn en=>Ok.bv λB eB=>?_
   have J:∀s:List Int,bS s=true/\s.length<=41->Ok (a8 s) (λr=>r.length<=41):=by
    intro s hs
    rw[H]
    exact Ok.ck hs.1 (Ok.bv λv ev=>Ok.sm (by rw[ev];simpa[qv]using hs.2))
   have hn:=(au en).2 oM
   subst eB
   refine Ok.lp (λs=>(0<=s.1/\s.2.1<(s.2.2.length:Int)/\s.1<=41)/\bS s.2.2=true/\s.2.2.length<=41) (λs=>(s.2.1-s.1).toNat) ⟨by simp only;omega,hs⟩ (by simp only;omega) λs F next ih=>Ok.bv λc ec=>Ok.it (λe=>?_) (λ_=>J _ F.2)
   rw[ec,dT]at e
   refine Ok.ck oM (Ok.ck oM (Ok.bv λr er=>Ok.bv λi ei=>Ok.bv λj ej=>?_))
   have hi:=(au ei).2 oM
   have hj:=(au ej).2 oM
   have hl:r.length=s.2.2.length:=by rw[er,List.length_set,List.length_set]
   refine ih _ ⟨by simp only;omega,?_,by simp only;omega⟩ (by simp only;omega)
   simp only
   rw[er]
   exact sG (sG F.2.1 _ (wM F.2.1 _)) _ (wM F.2.1 _)
  refine Ok.bv λc ec=>Ok.it (λe=>Ok.ck (by simp;omega) (Ok.bv λr er=>G _ ?_)) (λ_=>G _ ⟨hs.1,oM⟩)
  rw[er]
  exact⟨pi hs.1 (by decide),by simp;omega⟩
 subst eB
 refine Ok.lp (λs=>∃k:Nat,s.2.2.1=(k:Int)/\k<=20/\(0<=s.1/\s.1<((10 ^ (20-k):Nat):Int))/\bS s.2.2.2=true/\s.2.2.2.length<=2*k) (λs=>(21-s.2.2.1).toNat) ⟨0,O,by decide,⟨by simp only;omega,?_⟩,rfl,by simp⟩ (by simp) λs F next ih=>?_
 · show y<((10 ^ 20:Nat):Int)
   rw[show(10 ^ 20:Nat)=100000000000000000000 from rfl]
   omega
 obtain⟨k,hk,b1,hu,hb,hl⟩:=F
 refine Ok.bv λc1 ad=>Ok.bv λc2 af=>Ok.bv λc ec=>Ok.it (λe=>?_) (λ_=>a6 _ ⟨hb,oM⟩)
 simp[ec,ad,af]at e
 have b2:k<20:=by
  rcases Nat.lt_or_ge k 20 with h|h
  ·exact h
  · have:k=20:=oM
    subst this
    have h1:(10 ^ (20-20):Nat)=1:=rfl
    rw[h1]at hu
    omega
 have hp:(10 ^ (20-k):Nat)=10*10 ^ (20-(k+1)):=by
  rw[show 20-k=(20-(k+1))+1 by omega,Nat.pow_succ,Nat.mul_comm]
 have b3:(10 ^ (20-k):Nat)<=100000000000000000000:=Nat.pow_le_pow_right (n:=10) (by decide) (show 20-k<=20 by omega)
 refine Ok.bv λao W=>Ok.bv λb0 X=>?_
 have E:∀u:Int × Bool × List Int,u.1=s.1 / 10/\bS u.2.2=true/\u.2.2.length<=2*(k+1)->Ok (ao u) (λr=>r.length<=41):=by
  intro u Y
  rw[W]
  refine Ok.bv λi ei=>ih _ ?_ ?_
  · have hi:=(au ei).2 oM
    refine⟨k+1,by simp only;omega,oM,?_,Y.2⟩
    simp only
    rw[Y.1]
    omega
  · have hi:=(au ei).2 oM
    simp only
    omega
 have f:∀u:Bool × List Int,bS u.2=true/\u.2.length<=2*k+1->Ok (b0 u) (λr=>r.length<=41):=by
  intro u Y
  rw[X]
  refine Ok.bv λd ed=>Ok.bv λd' b4=>Ok.bv λq eq=>Ok.bv λ_ _=>Ok.bv λ_ _=>?_
  have hd:s.1.tdiv 10=s.1 / 10:=Int.tdiv_eq_ediv_of_nonneg hu.1
  have hq:=(j0 eq).2 oM
  refine Ok.it (λ_=>E _ ⟨by simp only;omega,Y.1,by simp only;omega⟩) (λ_=>Ok.bv λb eb=>Ok.ck (by simp;omega) (Ok.bv λl el=>E _ ⟨by simp only;omega,?_,?_⟩))
  ·simp only;rw[el];exact pi Y.1 (BD (Aa eb).1)
  ·simp only;rw[el];simp;omega
 refine Ok.bv λ_ _=>Ok.it (λ_=>Ok.bv λ_ _=>Ok.it (λ_=>Ok.ck (by simp;omega) (Ok.bv λl el=>f _ ⟨?_,?_⟩)) (λ_=>f _ ⟨hb,by simp only;omega⟩)) (λ_=>f _ ⟨hb,by simp only;omega⟩)
 ·simp only;rw[el];exact pi hb (by decide)
 ·simp only;rw[el];simp;omega
theorem mC(t:List UInt8):bw t=some (if 64<(t.length:Int)then⟨4,2,[]⟩else⟨2,0,t⟩):=by
 unfold bw aa
 by_cases h:64<(t.length:Int)<;>simp[h,obind,aG]
theorem fQ(b:Bool):bu b=some ⟨3,if b=true then 1 else 0,[]⟩:=by
 cases b<;>rfl
theorem qF(n:Int) (b:Bool):bz n b=some (if b=true then⟨1,n,[]⟩else⟨4,5,[]⟩):=by
 cases b<;>rfl
theorem mf(x y:V):gO x y=some (if x.k≠0 then x else if y.k=2 then⟨2,0,[]⟩else if y.k=3 then⟨3,0,[]⟩else⟨1,0,[]⟩):=by
 unfold gO aa
 by_cases f:x.k=0
 · by_cases u:y.k=2
   ·simp[f,u,obind,mC]
   · by_cases E:y.k=3
     ·simp[f,u,E,obind,fQ]
     ·simp[f,u,E,obind,bW]
 ·simp[f]
theorem ni(x y:V):Ok (fT x y) (λ_=>True):=by
 unfold fT
 rw[mf,mf]
 refine Ok.os λa f=>Ok.os λb u=>Ok.bv λ_ _=>Ok.it (λ_=>?_) (λ_=>?_)
 ·exact Ok.os λ_ _=>Ok.os λ_ _=>Ok.bv λ_ _=>Ok.sm trivial
 ·exact Ok.bv λ_ _=>Ok.it (λ_=>Ok.bv λ_ _=>Ok.sm trivial) (λ_=>Ok.bv λ_ _=>Ok.it (λ_=>Ok.sm trivial) (λ_=>Ok.bv λ_ _=>Ok.it (λ_=>Ok.sm trivial) (λ_=>Ok.sm trivial)))
structure Gd (x:V):Prop where
 k0:0<=x.k
 k3:x.k<=3
 s:x.s.length<=64
 n1:x.k=1->-9223372036854775807<=x.n/\x.n<=9223372036854775807
 n3:x.k=3->0<=x.n/\x.n<=1
theorem C3(n:Int):0<=bits .and .i64 n 1/\bits .and .i64 n 1<=1:=by
 have h:(BitVec.ofInt 64 n &&& BitVec.ofInt 64 1).toNat<=1:=by
  rw[BitVec.toNat_and]
  exact Nat.and_le_right
 show 0<=IntKind.i64.wrap ((BitVec.ofInt 64 n &&& BitVec.ofInt 64 1).toNat:Int)/\IntKind.i64.wrap ((BitVec.ofInt 64 n &&& BitVec.ofInt 64 1).toNat:Int)<=1
 generalize (BitVec.ofInt 64 n &&& BitVec.ofInt 64 1).toNat=v at h
 have:=(au (z:=IntKind.i64.wrap (v:Int)) rfl).2 oM
 omega
theorem qj{x:V}(h:Gd x) (f:-9223372036854775808<=x.n/\x.n<=9223372036854775807):Ok (dy x) (λr=>r.length<=64):=by
 unfold dy
 refine Ok.bv λ_ _=>Ok.it (λ_=>Ok.ob (qx f) λy u hy=>Ok.sm oM) (λ_=>Ok.bv λ_ _=>Ok.it (λ_=>Ok.sm h.s) (λ_=>Ok.bv λ_ _=>Ok.it (λ_=>Ok.bv λ_ _=>Ok.it (λ_=>Ok.sm (by decide)) (λ_=>Ok.sm (by decide))) (λ_=>Ok.bv λ_ e=>Ok.it (λg=>?_) (λ_=>Ok.sm (by decide)))))
 simp[e]at g
 have:=h.k3
 omega
theorem yV(s p:List UInt8):(Lib.trimPrefix s p).length<=s.length:=by
 unfold Lib.trimPrefix
 split<;>simp
def Rt(v:V):Prop:=
 (v.k=0/\v.n=0/\v.s=[])\/(v.k=1/\(-9223372036854775807<=v.n/\v.n<=9223372036854775807)/\v.s=[])\/(v.k=2/\v.n=0/\v.s.length<=64)\/
  (v.k=3/\(v.n=0\/v.n=1)/\v.s=[])\/(v.k=4/\(1<=v.n/\v.n<=7)/\v.s=[])
theorem Rt.n{v:V}(h:Rt v):-9223372036854775807<=v.n/\v.n<=9223372036854775807:=by unfold Rt at h;omega
theorem Rt.len{v:V}(h:Rt v):v.s.length<=64:=by
 rcases h with h|h|h|h|h
 ·simp[h.2.2]
 ·simp[h.2.2]
 ·exact h.2.2
 ·simp[h.2.2]
 ·simp[h.2.2]
theorem Rt.gd{v:V}(h:Rt v) (f:v.k≠4):Gd v:=by
 have hl:=h.len
 unfold Rt at h
 exact⟨oM,oM,hl,oM,oM⟩
theorem DF:bits .and .i64 0 1=0/\bits .and .i64 1 1=1:=by decide
theorem Rt.right{v:V}(h:Rt v):co v=some true:=by
 rcases h with h|h|h|h|h<;>obtain⟨f,h2,u⟩:=h
 ·simp[co,aa,f,h2,u]
 · have:v.n≠-9223372036854775808:=oM
   simp[co,aa,f,u,this]
 ·simp[co,aa,f,h2];omega
 ·rcases h2 with h2|h2<;>simp[co,aa,f,h2,u,DF]
 ·simp[co,aa,f,u];omega
theorem oV{x:V}(J:-9223372036854775808<=x.n/\x.n<=9223372036854775807):Ok (co x) (λb=>b=true->Rt x):=by
 unfold co
 refine Ok.bv λ_ u=>Ok.it (λh=>Ok.bv λ_ a=>Ok.bv λ_ b=>Ok.bv λ_ c=>Ok.sm λg=>?_) (λh=>?_)
 · simp[u]at h
   simp[c,a,b]at g
   exact .inl ⟨h,g.1,g.2⟩
 refine Ok.bv λ_ E=>Ok.it (λh=>Ok.bv λ_ a=>Ok.bv λ_ b=>Ok.bv λ_ c=>Ok.sm λg=>?_) (λh=>?_)
 · simp[E]at h
   simp[c,a,b]at g
   exact .inr (.inl ⟨h,oM,g.2⟩)
 refine Ok.bv λ_ F=>Ok.it (λh=>Ok.bv λ_ a=>Ok.bv λ_ b=>Ok.bv λ_ c=>Ok.sm λg=>?_) (λh=>?_)
 · simp[F]at h
   simp[c,a,b]at g
   exact .inr (.inr (.inl ⟨h,g.1,oM⟩))
 refine Ok.bv λ_ G=>Ok.it (λh=>Ok.bv λ_ a=>Ok.bv λ_ b=>Ok.bv λ_ c=>Ok.bv λ_ d=>Ok.sm λg=>?_) (λh=>?_)
 · simp[G]at h
   simp[d,b,a,c]at g
   have:=C3 x.n
   exact .inr (.inr (.inr (.inl ⟨h,oM,g.2⟩)))
 refine Ok.bv λ_ H=>Ok.it (λh=>Ok.bv λ_ a=>Ok.bv λ_ b=>Ok.bv λ_ c=>Ok.bv λ_ d=>Ok.bv λ_ f=>Ok.sm λg=>?_) (λh=>Ok.sm λh=>absurd h Bool.false_ne_true)
 simp[H]at h
 simp[f,c,a,b,d]at g
 exact .inr (.inr (.inr (.inr ⟨h,oM,g.2⟩)))
theorem Ch{n:Int}(h:-9223372036854775807<=n/\n<=9223372036854775807):Rt ⟨1,n,[]⟩:=.inr (.inl ⟨rfl,h,rfl⟩)
theorem vw{n:Int}(h:1<=n/\n<=7):Rt ⟨4,n,[]⟩:=.inr (.inr (.inr (.inr ⟨rfl,h,rfl⟩)))
theorem bX{x0:Int}(h:-9223372036854775807<=x0/\x0<=9223372036854775807):Ok (bW x0) (λr=>Rt r/\(r.k=4\/r.k=1)):=Ok.sm ⟨Ch h,.inr rfl⟩
theorem av{x0:Int}(h:1<=x0/\x0<=7):Ok (aG x0) (λr=>Rt r/\(r.k=4\/r.k=1)):=Ok.sm ⟨vw h,.inl rfl⟩
theorem ba{x0:Bool}:Ok (bu x0) Rt:=by
 rw[fQ]
 cases x0
 ·exact Ok.sm (.inr (.inr (.inr (.inl ⟨O,.inl O,O⟩))))
 ·exact Ok.sm (.inr (.inr (.inr (.inl ⟨O,.inr O,O⟩))))
theorem bM{x0:List UInt8}:Ok (bw x0) (λr=>Rt r/\r.s.length<=64):=by
 rw[mC]
 by_cases h:64<(x0.length:Int)
 ·rw[if_pos h];exact Ok.sm ⟨vw (by decide),by decide⟩
 ·rw[if_neg h];exact Ok.sm ⟨.inr (.inr (.inl ⟨O,O,by simp only;omega⟩)),by simp only;omega⟩
theorem aY{x0:Int}{f:Bool}(h:f=true->-9223372036854775807<=x0/\x0<=9223372036854775807):Ok (bz x0 f) (λr=>Rt r/\(r.k=4\/r.k=1)):=by
 rw[qF]
 cases f
 ·exact Ok.sm ⟨vw (by decide),.inl rfl⟩
 ·exact Ok.sm ⟨Ch (h O),.inr O⟩
theorem ug(a:Int){c:Int}(f:c≠0):(a.tmod c).natAbs<c.natAbs:=by
 rcases Int.lt_or_gt_of_ne f with h|h
 · have:=o7 a (c:=-c) oM
   rw[Int.tmod_neg]at this
   omega
 · have:=o7 a (c:=c) h
   omega
theorem dk(a c:Int):(a.tdiv c).natAbs<=a.natAbs:=by
 rw[Int.natAbs_tdiv]
 exact Nat.div_le_self _ _
theorem xm{a s:Int}(hs:1<=s) (u:a<=Int.tdiv 9223372036854775807 s) (f:Int.tdiv (-9223372036854775807) s<=a):-9223372036854775807<=a*s/\a*s<=9223372036854775807:=by
 have e:Int.tdiv 9223372036854775807 s=9223372036854775807 / s:=Int.tdiv_eq_ediv_of_nonneg (by decide)
 rw[Int.neg_tdiv]at f
 rw[e]at u f
 have hd:9223372036854775807 / s*s<=9223372036854775807:=Int.ediv_mul_le _ oM
 have F:a*s<=9223372036854775807 / s*s:=Int.mul_le_mul_of_nonneg_right u oM
 have E:-(9223372036854775807 / s)*s<=a*s:=Int.mul_le_mul_of_nonneg_right f oM
 rw[Int.neg_mul]at E
 omega
theorem eN{α:Type}{l:List α}{z:α}{P:α->Prop}(h:∀x∈l,P x) (hz:P z):∀x∈l++[z],P x:=by
 intro x f
 rcases List.mem_append.1 f with h'|h'
 ·exact h x h'
 ·rw[List.mem_singleton.1 h'];exact hz
theorem Az{α:Type}{a b:α}{P:α->Prop}(h:P a) (k:P b):∀x∈[a,b],P x:=by
 intro x f
 simp at f
 rcases f with rfl|rfl
 ·exact h
 ·exact k
theorem A5{α:Type}{l m:List α}{P:α->Prop}(h:∀x∈l,P x) (k:∀x∈m,P x):∀x∈l++m,P x:=by
 intro x f
 rcases List.mem_append.1 f with h'|h'
 ·exact h x h'
 ·exact k x h'
theorem lZ{α:Type}{l:List α}{P:α->Prop}(h:∀x∈l,P x) (a b:Int):∀x∈fd l a b,P x:=λx f=>h x (List.mem_of_mem_take (List.mem_of_mem_drop f))
theorem ko{α:Type}(l:List α) (a b:Int) (h:0<=a/\a<=b/\b<=(l.length:Int)):((fd l a b).length:Int)=b-a:=by
 unfold fd
 rw[List.length_drop,List.length_take]
 omega
theorem j5{x0:V}(h:Rt x0) (f:x0.k≠4):Ok (dy x0) (λr=>r.length<=64):=qj (h.gd f) (by have:=h.n;omega)
end Go.Sp
end
section
set_option maxRecDepth 100000
namespace Go.Sp
open Go.Stp Go.ValP
theorem eL{x0:Int}  : Ok (g_ x0) (λr=>-9223372036854775807<=r.1/\r.1<=9223372036854775807):=by
 unfold g_
 refine Ok.bv λH u=>Ok.bv λJ E=>Ok.bv λW F=>Ok.it (λc=>?_) (λc=>?_)
 · try simp only[F,E,u,BL]at c
   exact Ok.sm fB
 · try simp only[F,E,u,BL]at c
   refine Ok.bv λX f=>?_
   have G:=(au f).1
   try replace f:=(au f).2 oM
   exact Ok.sm fB
theorem qT{x0:Int}  : Ok (kq x0) (λr=>r.2=true->-9223372036854775807<=r.1/\r.1<=9223372036854775807):=by
 unfold kq
 refine Ok.bv λz1 J=>Ok.bv λW u=>?_
 have E:∀H:Int,(True)->Ok (W H) (λr=>r.2=true->-9223372036854775807<=r.1/\r.1<=9223372036854775807):=by
  intro H X
  rw[u]
  refine Ok.ob (oD _ _) λy4 Y G=>?_
  exact Ok.sm (by exact G)
 clear u
 refine Ok.bv λz5 F=>Ok.it (λc=>?_) (λc=>?_)
 · try simp only[F,dT]at c
   refine Ok.bv λz7 f=>?_
   have a1:=(au f).1
   try replace f:=(au f).2 oM
   exact E _ fA
 · try simp only[F,dF]at c
   exact E _ fA
theorem qG{x0 J:Int}(h1:-9223372036854775808<=J/\J<=9223372036854775807):Ok (j9 x0 J) (λ_=>True):=by
 unfold j9
 refine Ok.bv λJ2 f=>?_
 have W:∀Y:Int,(True)->Ok (J2 Y) (λ_=>True):=by
  intro Y a1
  rw[f]
  exact Ok.sm fB
 clear f
 refine Ok.bv λB3 X=>?_
 subst X
 refine Ok.lp (λG:Int × Int=>True) (λG=>G.2.natAbs) fE fD λG a6 H u=>?_
 refine Ok.bv λz6 E=>Ok.it (λc=>?_) (λc=>?_)
 · try simp only[E,BL]at c
   refine Ok.cF fC λk1=>Ok.bv λa7 F=>?_
   have ht:=ug G.1 k1
   rw[<-F]at ht
   exact u _ fE fD
 · try simp only[E,BL]at c
   exact W _ fA
theorem k_{x0:List (Int)}(hl:x0.length<=1000):Ok (gn x0) (λr=>r.length=x0.length/\∀x∈r,-9223372036854775808<=x/\x<=9223372036854775807):=by
 unfold gn
 refine Ok.bv λJ2 G=>?_
 have a6:∀Y:(List (Int)),(Y.length=x0.length/\∀x∈Y,-9223372036854775808<=x/\x<=9223372036854775807)->Ok (J2 Y) (λr=>r.length=x0.length/\∀x∈r,-9223372036854775808<=x/\x<=9223372036854775807):=by
  intro Y b0
  rw[G]
  exact Ok.sm fB
 clear G
 refine Ok.bv λB5 a7=>?_
 subst a7
 refine Ok.lp (λE:Int × (List (Int))=>(0<=E.1/\E.1<=(x0.length:Int))/\(E.2.length:Int)=E.1/\∀x∈E.2,-9223372036854775808<=x/\x<=9223372036854775807) (λE=>((x0.length:Int)-E.1).toNat) (by refine⟨by simp only;omega,rfl,λx hx=>?_⟩;cases hx) fD λE H a1 J=>?_
 refine Ok.bv λz8 W=>Ok.it (λc=>?_) (λc=>?_)
 · try simp only[W,dT]at c
   refine Ok.cF fC λk1=>Ok.bv λa8 ad=>Ok.bv λb1 f=>?_
   try have af:=dk a8 1000000
   have X:=(au f).1
   try replace f:=(au f).2 oM
   refine Ok.cF fC λk2=>Ok.bv λb2 F=>Ok.bv λb3 u=>?_
   have ao:=(au u).1
   try replace u:=(au u).2 oM
   exact J _ (by refine⟨by simp only;omega,by simp only[F,List.length_append,List.length_singleton];omega,?_⟩;simp only[F];exact eN H.2.2 X) fD
 · try simp only[W,dF]at c
   exact a6 _ (by exact⟨oM,H.2.2⟩)
theorem dY{x0:Int}  : Ok (dP x0) (λr=>Rt r/\(r.k=4\/r.k=1)):=by
 unfold dP
 refine Ok.ob (eL) λG E u=>Ok.ob (aY (λ_=>u)) λH F f=>?_
 exact Ok.sm (by first|exact f|exact f.1|exact fB)
theorem qd{x0:Int}{x1:Bool}  : Ok (jp x0 x1) (λr=>Rt r/\(r.k=4\/r.k=1)):=by
 unfold jp
 refine Ok.bv λz2 X=>?_
 try have b5:=dk x0 1000000
 have b6:=(au X).1
 try replace X:=(au X).2 oM
 refine Ok.bv λJ4 a1=>?_
 have a6:∀s4:Int × Int,(True)->Ok (J4 s4) (λr=>Rt r/\(r.k=4\/r.k=1)):=by
  intro s4 b7
  rw[a1]
  refine Ok.bv λJ6 a7=>?_
  have a8:∀s6:Int,(True)->Ok (J6 s6) (λr=>Rt r/\(r.k=4\/r.k=1)):=by
   intro s6 bb
   rw[a7]
   refine Ok.bv λJ8 ad=>?_
   have af:∀s8:Int,(True)->Ok (J8 s8) (λr=>Rt r/\(r.k=4\/r.k=1)):=by
    intro s8 bk
    rw[ad]
    refine Ok.bv λz9 Y=>?_
    have bq:=(au Y).1
    try replace Y:=(au Y).2 oM
    refine Ok.ob (dY) λbs ao F=>?_
    exact Ok.sm (by first|exact F|exact F.1|exact fB)
   clear ad
   refine Ok.bv λc6 b0=>Ok.bv λc7 G=>Ok.bv λc8 H=>Ok.it (λc=>?_) (λc=>?_)
   · try simp only[H,G,BL]at c
     refine Ok.bv λcc f=>?_
     have b1:=(au f).1
     try replace f:=(au f).2 oM
     exact af _ fA
   · try simp only[H,G,BL]at c
     exact af _ fA
  clear a7
  refine Ok.bv λch b2=>Ok.bv λcp J=>Ok.it (λc=>?_) (λc=>?_)
  · try simp only[J,BL]at c
    refine Ok.bv λct u=>?_
    have b3:=(au u).1
    try replace u:=(au u).2 oM
    exact a8 _ fA
  · try simp only[J,BL]at c
    exact a8 _ fA
 clear a1
 refine Ok.bv λcx W=>Ok.it (λc=>?_) (λc=>?_)
 · try simp only[W,dT]at c
   refine Ok.bv λcy E=>?_
   have b4:=(au E).1
   try replace E:=(au E).2 oM
   exact a6 _ fA
 · try simp only[W,dF]at c
   exact a6 _ fA
theorem oP{x0 x1:Int}(h0:-9223372036854775807<=x0/\x0<=9223372036854775807) (h1:-6<=x1/\x1<=6):Ok (iE x0 x1) (λr=>Rt r/\(r.k=4\/r.k=1)):=by
 unfold iE
 refine Ok.bv λJ3 bb=>?_
 have cc:∀s3:Int,(1<=s3/\s3<=1000000000000)->Ok (J3 s3) (λr=>Rt r/\(r.k=4\/r.k=1)):=by
  intro s3 ch
  rw[bb]
  refine Ok.cF fC λk1=>Ok.bv λz5 b5=>?_
  try have e7:=dk x0 s3
  have e8:=(au b5).1
  try replace b5:=(au b5).2 oM
  refine Ok.cF fC λk2=>Ok.bv λz7 e9=>Ok.bv λJ9 bk=>?_
  have bq:∀s9:Int,(True)->Ok (J9 s9) (λr=>Rt r/\(r.k=4\/r.k=1)):=by
   intro s9 ea
   rw[bk]
   refine Ok.bv λcp a8=>?_
   have G:∀b6:Int,(True)->Ok (cp b6) (λr=>Rt r/\(r.k=4\/r.k=1)):=by
    intro b6 cx
    rw[a8]
    refine Ok.cF fC λk3=>Ok.bv λeb u=>?_
    try have cy:=dk 9223372036854775807 s3
    have da:=(au u).1
    try replace u:=(au u).2 oM
    refine Ok.bv λec f=>Ok.cF (by first|(simp only[f,BL];omega)|(simp[f];omega)|(simp[f];done)|exact fC) λk4=>Ok.bv λed E=>?_
    try have dd:=dk (-9223372036854775807) s3
    have dj:=(au E).1
    try replace E:=(au E).2 oM
    refine Ok.bv λef ad=>Ok.bv λei af=>Ok.it (λc=>?_) (λc=>?_)
    · try simp only[af,ad,f,BL]at c
      refine Ok.ob (av fA) λej dn ao=>?_
      exact Ok.sm (by first|exact ao|exact ao.1|exact fB)
    · try simp only[af,ad,f,BL]at c
      have hg:=xm (a:=b6) ch.1 (by rw[<-u];omega) (by rw[<-E];omega)
      refine Ok.bv λel H=>?_
      have dv:=(au H).1
      try replace H:=(au H).2 oM
      refine Ok.ob (bX oM) λeo dz b0=>?_
      exact Ok.sm (by first|exact b0|exact b0.1|exact fB)
   clear a8
   refine Ok.bv λep J=>?_
   have e0:=(au J).1
   try replace J:=(au J).2 oM
   refine Ok.bv λer b1=>Ok.it (λc=>?_) (λc=>?_)
   · try simp only[b1,dT]at c
     refine Ok.bv λet b2=>Ok.it (λc=>?_) (λc=>?_)
     · try simp only[b2,dT]at c
       refine Ok.bv λeu W=>?_
       have e1:=(au W).1
       try replace W:=(au W).2 oM
       exact G _ fA
     · try simp only[b2,dF]at c
       refine Ok.bv λew X=>?_
       have e2:=(au X).1
       try replace X:=(au X).2 oM
       exact G _ fA
   · try simp only[b1,dF]at c
     exact G _ fA
  clear bk
  refine Ok.bv λey b3=>Ok.it (λc=>?_) (λc=>?_)
  · try simp only[b3,dT]at c
    refine Ok.bv λez Y=>?_
    have e3:=(au Y).1
    try replace Y:=(au Y).2 oM
    exact bq _ fA
  · try simp only[b3,dF]at c
    exact bq _ fA
 clear bb
 refine Ok.bv λbs a1=>?_
 have e4:=(au a1).1
 try replace a1:=(au a1).2 oM
 refine Ok.bv λeF c6=>?_
 subst c6
 refine Ok.lp (λa6:Int × Int=>∃k:Nat,a6.2=(k:Int)/\k<=12/\a6.1=((10 ^ k:Nat):Int)/\(k:Int)<=bs) (λa6=>(bs-a6.2).toNat) (by exact⟨0,rfl,by decide,rfl,oM⟩) fD λa6 c7 c8 b7=>?_
 obtain⟨k,eJ,ct,eZ,ff⟩:=c7
 have hp:(10 ^ k:Nat)<=1000000000000:=Nat.pow_le_pow_right (n:=10) (by decide) ct
 have fs:1<=(10 ^ k:Nat):=Nat.pow_pos (by decide)
 refine Ok.bv λgb b4=>Ok.it (λc=>?_) (λc=>?_)
 · try simp only[b4,dT]at c
   refine Ok.bv λgf F=>?_
   have e5:=(au F).1
   try replace F:=(au F).2 oM
   refine Ok.bv λgg a7=>?_
   have e6:=(au a7).1
   try replace a7:=(au a7).2 oM
   exact b7 _ (by refine⟨k+1,by simp only;omega,oM,?_,oM⟩;simp only[F];rw[Nat.pow_succ];omega) fD
 · try simp only[b4,dF]at c
   exact cc _ fA
theorem eV{x0:List (V)}(hl:x0.length<=1000) (hx:∀x∈x0,Rt x):Ok (dq x0) (λr=>r.length<=x0.length/\∀x∈r,-9223372036854775807<=x/\x<=9223372036854775807):=by
 unfold dq
 refine Ok.bv λJ2 W=>?_
 have a6:∀s2:(List (Int)),(s2.length<=x0.length/\∀x∈s2,-9223372036854775807<=x/\x<=9223372036854775807)->Ok (J2 s2) (λr=>r.length<=x0.length/\∀x∈r,-9223372036854775807<=x/\x<=9223372036854775807):=by
  intro s2 af
  rw[W]
  exact Ok.sm fB
 clear W
 refine Ok.bv λB5 a7=>?_
 subst a7
 refine Ok.lp (λE:Int × (List (Int))=>(0<=E.1/\E.1<=(x0.length:Int))/\(E.2.length:Int)<=E.1/\∀x∈E.2,-9223372036854775807<=x/\x<=9223372036854775807) (λE=>((x0.length:Int)-E.1).toNat) (by refine⟨by simp only;omega,by simp,λx hx=>?_⟩;cases hx) fD λE J a1 F=>?_
 refine Ok.bv λz8 X=>Ok.it (λc=>?_) (λc=>?_)
 · try simp only[X,dT]at c
   refine Ok.cF fC λk1=>Ok.bv λao Y=>?_
   have hz:=Rt.n (di hx Y oM)
   refine Ok.bv λb0 G=>Ok.it (λc=>?_) (λc=>?_)
   · try simp only[G,dT]at c
     refine Ok.cF fC λk2=>Ok.bv λb1 H=>Ok.bv λb2 f=>?_
     have a8:=(au f).1
     try replace f:=(au f).2 oM
     exact F _ (by refine⟨by simp only;omega,by simp only[H,List.length_append,List.length_singleton];omega,?_⟩;simp only[H];exact eN J.2.2 hz) fD
   · try simp only[G,dF]at c
     refine Ok.bv λb3 u=>?_
     have ad:=(au u).1
     try replace u:=(au u).2 oM
     exact F _ (by refine⟨by simp only;omega,by simp only;omega,J.2.2⟩) fD
 · try simp only[X,dF]at c
   exact a6 _ (by exact⟨oM,J.2.2⟩)
theorem ik{x0:List (V)}(hl:x0.length<=1000) (hx:∀x∈x0,Rt x):Ok (gk x0) (λr=>Rt r/\(r.k=4\/r.k=1)):=by
 unfold gk
 refine Ok.bv λJ3 H=>?_
 have a6:∀J:Int × Bool,(J.2=true->-9223372036854775807<=J.1/\J.1<=9223372036854775807)->Ok (J3 J) (λr=>Rt r/\(r.k=4\/r.k=1)):=by
  intro J a7
  rw[H]
  refine Ok.ob (aY a7) λy4 b2 W=>?_
  exact Ok.sm (by first|exact W|exact W.1|exact fB)
 clear H
 refine Ok.ob (eV fA fA) λy5 b3 a8=>?_
 obtain⟨b4,b5⟩:=a8
 refine Ok.bv λB8 ad=>?_
 subst ad
 refine Ok.lp (λE:Int × Bool × Int=>(0<=E.2.2/\E.2.2<=(y5.length:Int))/\(E.2.1=true->-9223372036854775807<=E.1/\E.1<=9223372036854775807)) (λE=>((y5.length:Int)-E.2.2).toNat) (by exact⟨by simp only;omega,λ_=>⟨by decide,by decide⟩⟩) fD λE X a1 F=>?_
 refine Ok.bv λb6 G=>Ok.it (λc=>?_) (λc=>?_)
 · try simp only[G,dT]at c
   refine Ok.cF fC λk1=>Ok.bv λb7 af=>Ok.it (λc=>?_) (λc=>?_)
   · refine Ok.ob (lq _ _) λbb ao Y=>Ok.bv λbk f=>?_
     have b0:=(au f).1
     try replace f:=(au f).2 oM
     exact F _ (by exact⟨by simp only;omega,Y⟩) fD
   · refine Ok.bv λbq u=>?_
     have b1:=(au u).1
     try replace u:=(au u).2 oM
     exact F _ (by exact⟨by simp only;omega,X.2⟩) fD
 · try simp only[G,dF]at c
   exact a6 _ (by exact X.2)
theorem np{x0:Bool}{x1:List (V)}(hl:x1.length<=1000) (hx:∀x∈x1,Rt x):Ok (fY x0 x1) (λr=>Rt r/\(r.k=4\/r.k=1)):=by
 unfold fY
 refine Ok.ob (eV fA fA) λy2 bq b2=>?_
 obtain⟨bs,a7⟩:=b2
 refine Ok.bv λz5 a8=>Ok.it (λc=>?_) (λc=>?_)
 · try simp only[a8,dT]at c
   refine Ok.ob (bX fA) λy7 c6 ad=>?_
   exact Ok.sm (by first|exact ad|exact ad.1|exact fB)
 · try simp only[a8,dF]at c
   refine Ok.cF fC λk1=>Ok.bv λz9 b3=>?_
   have hz:=di a7 b3 oM
   refine Ok.bv λb4 H=>?_
   have af:∀G:Int,(-9223372036854775807<=G/\G<=9223372036854775807)->Ok (b4 G) (λr=>Rt r/\(r.k=4\/r.k=1)):=by
    intro G b5
    rw[H]
    refine Ok.ob (bX fA) λc7 b6 J=>?_
    exact Ok.sm (by first|exact J|exact J.1|exact fB)
   clear H
   refine Ok.bv λc8 ao=>?_
   subst ao
   refine Ok.lp (λf:Int × Int=>(0<=f.2/\f.2<=(y2.length:Int))/\(-9223372036854775807<=f.1/\f.1<=9223372036854775807)) (λf=>((y2.length:Int)-f.2).toNat) fE fD λf b7 b0 u=>?_
   refine Ok.bv λcc W=>Ok.it (λc=>?_) (λc=>?_)
   · try simp only[W,dT]at c
     refine Ok.cF fC λk2=>Ok.bv λch b1=>?_
     have cp:=di a7 b1 oM
     refine Ok.bv λct X=>Ok.bv λcx Y=>Ok.bv λcy a1=>Ok.bv λda a6=>Ok.it (λc=>?_) (λc=>?_)
     · try simp only[a6,a1,Y,X,BL]at c
       refine Ok.bv λdd E=>?_
       have bb:=(au E).1
       try replace E:=(au E).2 oM
       exact u _ fE fD
     · try simp only[a6,a1,Y,X,BL]at c
       refine Ok.bv λdj F=>?_
       have bk:=(au F).1
       try replace F:=(au F).2 oM
       exact u _ fE fD
   · try simp only[W,dF]at c
     exact af _ fA
theorem ga{x0 f:V}  : Ok (eC x0 f) (λ_=>True):=by
 unfold eC
 refine Ok.bv λJ u=>Ok.bv λW E=>Ok.bv λX F=>Ok.bv λY G=>Ok.bv λz7 H=>?_
 exact Ok.sm fB
theorem iL{x0:Int}{x1:Bool}{x2:List (V)}(hl:x2.length<=1000):Ok (fj x0 x1 x2) (λr=>Rt r/\(r.k=4\/r.k=1)):=by
 unfold fj
 refine Ok.bv λJ3 J=>?_
 have a6:∀s3:Int,(True)->Ok (J3 s3) (λr=>Rt r/\(r.k=4\/r.k=1)):=by
  intro s3 b1
  rw[J]
  refine Ok.ob (eL) λy4 b2 a7=>Ok.ob (aY (λ_=>a7)) λy5 b3 W=>?_
  exact Ok.sm (by first|exact W|exact W.1|exact fB)
 clear J
 refine Ok.bv λB7 a8=>?_
 subst a8
 refine Ok.lp (λX:Int × Int=>(0<=X.2/\X.2<=(x2.length:Int))) (λX=>((x2.length:Int)-X.2).toNat) fE fD λX b4 a1 F=>?_
 refine Ok.bv λz9 Y=>Ok.it (λc=>?_) (λc=>?_)
 · try simp only[Y,dT]at c
   refine Ok.cF fC λk1=>Ok.bv λb5 ad=>Ok.bv λb6 G=>Ok.bv λb7 H=>Ok.it (λc=>?_) (λc=>?_)
   · try simp only[H,G,BL]at c
     refine Ok.bv λbb f=>?_
     have af:=(au f).1
     try replace f:=(au f).2 oM
     refine Ok.bv λbk u=>?_
     have ao:=(au u).1
     try replace u:=(au u).2 oM
     exact F _ fE fD
   · try simp only[H,G,BL]at c
     refine Ok.bv λbq E=>?_
     have b0:=(au E).1
     try replace E:=(au E).2 oM
     exact F _ fE fD
 · try simp only[Y,dF]at c
   exact a6 _ fA
theorem nj{x0:V}{X:List (V)}(hl:X.length<=1000):Ok (fZ x0 X) (λr=>Rt r/\(r.k=4\/r.k=1)):=by
 unfold fZ
 refine Ok.bv λJ4 H=>?_
 have a1:∀s4:Int,(True)->Ok (J4 s4) (λr=>Rt r/\(r.k=4\/r.k=1)):=by
  intro s4 b2
  rw[H]
  refine Ok.ob (eL) λy5 b3 a6=>Ok.ob (aY (λ_=>a6)) λy6 b4 J=>?_
  exact Ok.sm (by first|exact J|exact J.1|exact fB)
 clear H
 refine Ok.bv λB8 a7=>?_
 subst a7
 refine Ok.lp (λW:Int × Int=>(0<=W.2/\W.2<=(X.length:Int))) (λW=>((X.length:Int)-W.2).toNat) fE fD λW b5 Y F=>?_
 refine Ok.bv λb6 G=>Ok.it (λc=>?_) (λc=>?_)
 · try simp only[G,dT]at c
   refine Ok.cF fC λk1=>Ok.bv λb7 a8=>Ok.ob (ga) λbb ad af=>Ok.it (λc=>?_) (λc=>?_)
   · refine Ok.bv λbk f=>?_
     have ao:=(au f).1
     try replace f:=(au f).2 oM
     refine Ok.bv λbq u=>?_
     have b0:=(au u).1
     try replace u:=(au u).2 oM
     exact F _ fE fD
   · refine Ok.bv λbs E=>?_
     have b1:=(au E).1
     try replace E:=(au E).2 oM
     exact F _ fE fD
 · try simp only[G,dF]at c
   exact a1 _ fA
theorem oW{x0:V}{W:List (V)}(hl:W.length<=1000) (hx:∀x∈W,Rt x):Ok (iq x0 W) (λr=>Rt r/\(r.k=4\/r.k=1)):=by
 unfold iq
 refine Ok.bv λJ4 X=>?_
 have a8:∀s4:(List (V)),(s4.length<=1000/\∀x∈s4,Rt x)->Ok (J4 s4) (λr=>Rt r/\(r.k=4\/r.k=1)):=by
  intro s4 Y
  rw[X]
  refine Ok.ob (ik Y.1 Y.2) λy6 b2 a1=>?_
  exact Ok.sm (by first|exact a1|exact a1.1|exact fB)
 clear X
 refine Ok.bv λB8 ad=>?_
 subst ad
 refine Ok.lp (λE:Int × (List (V))=>(0<=E.1/\E.1<=(W.length:Int))/\(E.2.length:Int)<=E.1/\∀x∈E.2,Rt x) (λE=>((W.length:Int)-E.1).toNat) (by refine⟨by simp only;omega,by simp,λx hx=>?_⟩;cases hx) fD λE J a7 F=>?_
 refine Ok.bv λb3 G=>Ok.it (λc=>?_) (λc=>?_)
 · try simp only[G,dT]at c
   refine Ok.cF fC λk1=>Ok.bv λb4 a6=>?_
   have hz:=di hx a6 oM
   refine Ok.ob (ga) λb5 af ao=>Ok.it (λc=>?_) (λc=>?_)
   · refine Ok.cF fC λk2=>Ok.bv λb6 H=>Ok.bv λb7 f=>?_
     have b0:=(au f).1
     try replace f:=(au f).2 oM
     exact F _ (by refine⟨by simp only;omega,by simp only[H,List.length_append,List.length_singleton];omega,?_⟩;simp only[H];exact eN J.2.2 hz) fD
   · refine Ok.bv λbb u=>?_
     have b1:=(au u).1
     try replace u:=(au u).2 oM
     exact F _ (by refine⟨by simp only;omega,by simp only;omega,J.2.2⟩) fD
 · try simp only[G,dF]at c
   exact a8 _ (by exact⟨oM,J.2.2⟩)
theorem oT{x0:V}{Y:List (V)}(hl:Y.length<=1000):Ok (iu x0 Y) (λr=>Rt r/\(r.k=4\/r.k=1)):=by
 unfold iu
 refine Ok.bv λJ4 F=>?_
 have a6:∀s4:Int × Int × (List UInt8),(True)->Ok (J4 s4) (λr=>Rt r/\(r.k=4\/r.k=1)):=by
  intro s4 b3
  rw[F]
  refine Ok.ob (av fA) λy5 b4 G=>?_
  exact Ok.sm (by first|exact G|exact G.1|exact fB)
 clear F
 refine Ok.bv λB7 a7=>?_
 subst a7
 refine Ok.lp (λH:Int × Int × Int × (List UInt8)=>(0<=H.1/\H.1<=(Y.length:Int))) (λH=>((Y.length:Int)-H.1).toNat) fE fD λH b5 a1 J=>?_
 refine Ok.bv λz9 W=>Ok.it (λc=>?_) (λc=>?_)
 · try simp only[W,dT]at c
   refine Ok.cF fC λk1=>Ok.bv λb6 a8=>Ok.ob (ga) λb7 ad af=>Ok.it (λc=>?_) (λc=>?_)
   · refine Ok.bv λbb f=>?_
     have ao:=(au f).1
     try replace f:=(au f).2 oM
     refine Ok.ob (eL) λbk b0 X=>Ok.ob (aY (λ_=>X)) λbq b1 E=>?_
     exact Ok.sm (by first|exact E|exact E.1|exact fB)
   · refine Ok.bv λbs u=>?_
     have b2:=(au u).1
     try replace u:=(au u).2 oM
     exact J _ fE fD
 · try simp only[W,dF]at c
   exact a6 _ fA
theorem oR{x0 Y:Int}(h0:-9223372036854775808<=x0/\x0<=9223372036854775807) (h1:Y<=64):Ok (iA x0 Y) (λr=>Rt r/\(r.k=4\/r.k=1)):=by
 unfold iA
 refine Ok.ob (eL) λy2 b0 b1=>Ok.bv λJ4 G=>?_
 have a1:∀W:Int × Bool,(-9223372036854775807<=W.1/\W.1<=9223372036854775807)->Ok (J4 W) (λr=>Rt r/\(r.k=4\/r.k=1)):=by
  intro W a6
  rw[G]
  refine Ok.ob (aY (λ_=>a6)) λy5 b2 H=>?_
  exact Ok.sm (by first|exact H|exact H.1|exact fB)
 clear G
 refine Ok.bv λB7 a7=>?_
 subst a7
 refine Ok.lp (λF:Int × Bool × Int=>(0<=F.2.2)/\-9223372036854775807<=F.1/\F.1<=9223372036854775807) (λF=>(Y-F.2.2).toNat) fE fD λF b3 X E=>?_
 refine Ok.bv λz9 J=>Ok.it (λc=>?_) (λc=>?_)
 · try simp only[J,dT]at c
   refine Ok.it (λc=>?_) (λc=>?_)
   · refine Ok.ob (lH oM oM) λb4 a8 ad=>Ok.bv λb5 f=>?_
     have af:=(au f).1
     try replace f:=(au f).2 oM
     exact E _ fE fD
   · refine Ok.bv λb6 u=>?_
     have ao:=(au u).1
     try replace u:=(au u).2 oM
     exact E _ fE fD
 · try simp only[J,dF]at c
   exact a1 _ fA
theorem gB{x0:List (V)}(hl:x0.length<=1000) (hx:∀x∈x0,Rt x):Ok (dO x0) (λr=>Rt r/\(r.k=4\/r.k=1)):=by
 unfold dO
 refine Ok.ob (eV fA fA) λy2 c6 b4=>?_
 obtain⟨c7,a1⟩:=b4
 refine Ok.bv λz5 a6=>Ok.it (λc=>?_) (λc=>?_)
 · try simp only[a6,dT]at c
   refine Ok.ob (bX fA) λy7 c8 a7=>?_
   exact Ok.sm (by first|exact a7|exact a7.1|exact fB)
 · try simp only[a6,dF]at c
   refine Ok.cF fC λk1=>Ok.bv λz9 a8=>?_
   have cc:=di a1 a8 oM
   have hz:=di a1 a8 oM
   refine Ok.bv λb5 H=>?_
   have ad:∀G:Int × Bool,(-9223372036854775807<=G.1/\G.1<=9223372036854775807)->Ok (b5 G) (λr=>Rt r/\(r.k=4\/r.k=1)):=by
    intro G af
    rw[H]
    refine Ok.ob (aY (λ_=>af)) λch b6 J=>?_
    exact Ok.sm (by first|exact J|exact J.1|exact fB)
   clear H
   refine Ok.cF fC λk2=>Ok.bv λao W=>?_
   have b0:=ko y2 (1:Int) (y2.length:Int) oM
   rw[<-W]at b0
   have X:=lZ a1 (1:Int) (y2.length:Int)
   rw[<-W]at X
   refine Ok.bv λcp b1=>?_
   subst b1
   refine Ok.lp (λf:Int × Bool × Int=>(0<=f.2.2/\f.2.2<=(ao.length:Int))/\(-9223372036854775807<=f.1/\f.1<=9223372036854775807)) (λf=>((ao.length:Int)-f.2.2).toNat) fE fD λf b7 b2 u=>?_
   refine Ok.bv λct Y=>Ok.it (λc=>?_) (λc=>?_)
   · try simp only[Y,dT]at c
     refine Ok.cF fC λk3=>Ok.bv λcx b3=>?_
     have cy:=di X b3 oM
     refine Ok.it (λc=>?_) (λc=>?_)
     · refine Ok.ob (lH oM oM) λda bb bk=>Ok.bv λdd E=>?_
       have bq:=(au E).1
       try replace E:=(au E).2 oM
       exact u _ fE fD
     · refine Ok.bv λdj F=>?_
       have bs:=(au F).1
       try replace F:=(au F).2 oM
       exact u _ fE fD
   · try simp only[Y,dF]at c
     exact ad _ fA
theorem ns{x0:List (V)}(hl:x0.length<=1000) (hx:∀x∈x0,Rt x):Ok (fU x0) (λr=>Rt r/\(r.k=4\/r.k=1)):=by
 unfold fU
 refine Ok.ob (ik fA fA) λy2 a1 F=>?_
 have hn:=F.1.n
 refine Ok.ob (eV fA fA) λy4 a6 a7=>Ok.bv λz7 G=>Ok.it (λc=>?_) (λc=>?_)
 · try simp only[G,dT]at c
   refine Ok.ob (av fA) λy9 a8 H=>?_
   exact Ok.sm (by first|exact H|exact H.1|exact fB)
 · try simp only[G,dF]at c
   refine Ok.bv λad u=>Ok.it (λc=>?_) (λc=>?_)
   · try simp only[u,dT]at c
     exact Ok.sm (by first|exact F|exact F.1|exact fB)
   · try simp only[u,dF]at c
     refine Ok.bv λaf f=>?_
     have W:=(au f).1
     try replace f:=(au f).2 oM
     refine Ok.ob (lB oM oM) λao X J=>Ok.ob (aY (λ_=>J)) λb0 Y E=>?_
     exact Ok.sm (by first|exact E|exact E.1|exact fB)
end Go.Sp
end
section
set_option maxRecDepth 100000
namespace Go.Sp
open Go.Stp Go.ValP
theorem x6(l:List UInt8) (a b:Int) (h:0<=a/\a<=b/\b<=(l.length:Int)):((i_ l a b).length:Int)=b-a:=by
 rw[tQ]
 omega
theorem vZ:∀{l:List (List UInt8)},(∀t∈l,t.length<=64)->Lib.lens l<=64*l.length
 |[],_=>by simp[Lib.lens]
 |a::l,h=>by
  have u:=h a (List.mem_cons_self ..)
  have E:=vZ (l:=l) λt f=>h t (List.mem_cons_of_mem _ f)
  have e:Lib.lens (a::l)=a.length+Lib.lens l:=by simp[Lib.lens]
  rw[e,List.length_cons]
  omega
theorem join_le{l:List (List UInt8)}(h:∀t∈l,t.length<=64):(Lib.join l []).length<=64*l.length:=by
 cases l with
 |nil=>simp[Lib.join]
 |cons a l=>
  rw[Lib.join_length,List.length_nil,Nat.zero_mul,Nat.zero_add]
  exact vZ h
theorem Cu{a b c:List UInt8}(u:a.length<=64) (f:1<=b.length) (E:c.length<=64):a.length<4294967281/\1<=b.length/\a.length+Lib.countB ⟨a.toArray⟩ ⟨b.toArray⟩*c.length<=140737488355328:=by
 refine⟨oM,f,?_⟩
 have h:=Lib.countB_le ⟨b.toArray⟩ f a.length ⟨a.toArray⟩ (Nat.le_refl _)
 have F:Lib.countB ⟨a.toArray⟩ ⟨b.toArray⟩<=64:=Nat.le_trans h u
 have:=Nat.mul_le_mul F E
 omega
theorem CH(l:List UInt8):(zc l).length=l.length/\bS (zc l)=true:=by
 refine⟨by simp[zc],?_⟩
 unfold bS zc
 rw[List.all_map,List.all_eq_true]
 intro x _
 have:=x.toNat_lt
 simp
 omega
theorem oU{x0 x1 x2:Int}{x3:List (V)}(hl:x3.length<=1000) (hx:∀x∈x3,Rt x) (h0:x0=1\/x0=2) (h1:-9223372036854775808<=x1/\x1<=9223372036854775807) (h2:-9223372036854775808<=x2/\x2<=9223372036854775807):Ok (iG x0 x1 x2 x3) (Rt):=by
 rcases h0 with rfl|rfl
 all_goals
  unfold iG
  refine Ok.bv λz3 u=>Ok.bv λz4 E=>Ok.bv λz5 F=>Ok.bv λz6 G=>Ok.bv λz7 H=>Ok.bv λz8 J=>Ok.bv λz9 W=>Ok.cF (by first|(simp only[W,J,H,G,F,E,u,BL];omega)|(simp[W,J,H,G,F,E,u];omega)|(simp[W,J,H,G,F,E,u];done)|exact fC) λk1=>Ok.bv λb6 f=>?_
  rw[Int.tdiv_eq_ediv_of_nonneg oM]at f
  try have ao:=dk (x3.length:Int) x0
  have b0:=(au f).1
  try replace f:=(au f).2 oM
  refine Ok.bv λb7 a7=>Ok.bv λbb a8=>Ok.it (λc=>?_) (λc=>?_)
  · try simp only[a8,a7,W,J,H,G,F,E,u,BL]at c
    refine Ok.ob (av fA) λbk b1 ad=>?_
    exact Ok.sm (by first|exact ad|exact ad.1|exact fB)
  · try simp only[a8,a7,W,J,H,G,F,E,u,BL]at c
    refine Ok.bv λbq X=>?_
    have b2:=(au X).1
    try replace X:=(au X).2 oM
    refine Ok.bv λbs Y=>?_
    have b3:=(au Y).1
    try replace Y:=(au Y).2 oM
    refine Ok.bv λc6 a1=>?_
    have b4:=(au a1).1
    try replace a1:=(au a1).2 oM
    refine Ok.bv λc7 a6=>?_
    have b5:=(au a6).1
    try replace a6:=(au a6).2 oM
    refine Ok.cF fC λk2=>Ok.bv λc8 af=>?_
    exact Ok.sm (by first|exact di (by assumption) af oM|exact fB)
theorem nv{x0:V}{x1 x2:Int}{x3:List (V)}(hl:x3.length<=1000) (hx:∀x∈x3,Rt x) (h1:1<=x1/\x1<=1000) (h2:-9223372036854775808<=x2/\x2<=9223372036854775807):Ok (fO x0 x1 x2 x3) (Rt):=by
 unfold fO
 refine Ok.bv λz4 a1=>Ok.bv λz5 a6=>Ok.bv λz6 a7=>Ok.bv λz7 a8=>Ok.bv λz8 ad=>Ok.it (λc=>?_) (λc=>?_)
 · try simp only[ad,a8,a7,a6,a1,BL]at c
   refine Ok.ob (av fA) λcc b4 H=>?_
   exact Ok.sm (by first|exact H|exact H.1|exact fB)
 · try simp only[ad,a8,a7,a6,a1,BL]at c
   refine Ok.bv λb3 J=>?_
   have af:∀ao:Int × Int × (List UInt8),(True)->Ok (b3 ao) (Rt):=by
    intro ao b5
    rw[J]
    refine Ok.ob (av fA) λch b6 W=>?_
    exact Ok.sm (by first|exact W|exact W.1|exact fB)
   clear J
   refine Ok.bv λcp b0=>?_
   subst b0
   refine Ok.lp (λf:Int × Int × Int × (List UInt8)=>0<=f.1/\f.1<=2000) (λf=>(2000-f.1).toNat) fE fD λf b7 b1 Y=>?_
   refine Ok.bv λct u=>?_
   have bb:=(au u).1
   try replace u:=(au u).2 oM
   refine Ok.bv λcx X=>Ok.it (λc=>?_) (λc=>?_)
   · try simp only[X,dT]at c
     refine Ok.cF fC λk1=>Ok.bv λcy bk=>Ok.ob (ga) λda bq bs=>Ok.it (λc=>?_) (λc=>?_)
     · refine Ok.bv λdd E=>?_
       have c6:=(au E).1
       try replace E:=(au E).2 oM
       refine Ok.bv λdj F=>?_
       have c7:=(au F).1
       try replace F:=(au F).2 oM
       refine Ok.cF fC λk2=>Ok.bv λdn b2=>?_
       exact Ok.sm (by first|exact di (by assumption) b2 oM|exact fB)
     · refine Ok.bv λdv G=>?_
       have c8:=(au G).1
       try replace G:=(au G).2 oM
       exact Y _ fE fD
   · try simp only[X,dF]at c
     exact af _ fA
theorem m_{x0:List UInt8}(hl:x0.length<=100000):Ok (fR x0) (λr=>r.length<=x0.length):=by
 unfold fR
 refine Ok.bv λJ2 a1=>?_
 have ao:∀s2:(List UInt8),(s2.length<=x0.length)->Ok (J2 s2) (λr=>r.length<=x0.length):=by
  intro s2 c6
  rw[a1]
  exact Ok.sm fB
 clear a1
 refine Ok.bv λB4 b0=>?_
 subst b0
 refine Ok.lp (λf:(List UInt8) × Bool × Int=>(0<=f.2.2/\f.2.2<=(x0.length:Int))/\((f.1.length:Int)+(if f.2.1=true then 1 else 0)<=f.2.2)) (λf=>((x0.length:Int)-f.2.2).toNat) fE fD λf G af J=>?_
 refine Ok.bv λz6 a6=>Ok.it (λc=>?_) (λc=>?_)
 · try simp only[a6,dT]at c
   refine Ok.cF fC λk1=>Ok.bv λc7 b6=>Ok.bv λc8 W=>Ok.it (λc=>?_) (λc=>?_)
   · try simp only[W,dT]at c
     have h1:(f.1.length:Int)<=f.2.2:=by have h1:=G.2;split at h1<;>omega
     refine Ok.bv λcc b7=>Ok.bv λch u=>?_
     have bb:=(au u).1
     try replace u:=(au u).2 oM
     exact J _ (by refine⟨by simp only;omega,?_⟩;simp only;split<;>omega) fD
   · try simp only[W,dF]at c
     refine Ok.bv λb1 X=>?_
     have Y:∀H:(List UInt8),((H.length:Int)<=f.2.2)->Ok (b1 H) (λr=>r.length<=x0.length):=by
      intro H bk
      rw[X]
      refine Ok.bv λb2 E=>?_
      have bq:=(au E).1
      try replace E:=(au E).2 oM
      refine Ok.cF fC λk2=>Ok.bv λb3 a7=>?_
      have hc:=x6 x0 f.2.2 b2 oM
      rw[<-a7]at hc
      refine Ok.cF fC λk3=>Ok.bv λb4 a8=>?_
      have ha:b4.length=H.length+b3.length:=by rw[a8,List.length_append]
      refine Ok.bv λcp F=>?_
      have bs:=(au F).1
      try replace F:=(au F).2 oM
      exact J _ fE fD
     clear X
     refine Ok.it (λc=>?_) (λc=>?_)
     · rw[if_pos c]at G
       refine Ok.cF fC λk4=>Ok.bv λb5 ad=>?_
       have ha:b5.length=f.1.length+1:=by rw[ad,List.length_append];rfl
       exact Y _ fA
     · rw[if_neg (by simp[c])]at G
       exact Y _ fA
 · try simp only[a6,dF]at c
   exact ao _ (by have h1:=G.2;split at h1<;>omega)
theorem oS{x0:List UInt8}(hl:x0.length<=100000):Ok (iz x0) (λ_=>True):=by
 unfold iz
 refine Ok.bv λJ2 u=>?_
 have H:∀X:Int,(True)->Ok (J2 X) (λ_=>True):=by
  intro X a1
  rw[u]
  exact Ok.sm fB
 clear u
 refine Ok.bv λB5 J=>?_
 subst J
 refine Ok.lp (λW:Int × Nat=>True) (λW=>x0.length-W.2) fE fD λW a6 G E=>?_
 refine Ok.bv λz7 F=>Ok.it (λc=>?_) (λc=>?_)
 · try simp only[F,dT]at c
   have hn:=uI c
   refine Ok.bv λa7 f=>?_
   have Y:=(au f).1
   try replace f:=(au f).2 oM
   exact E _ fE fD
 · try simp only[F,dF]at c
   exact H _ fA
theorem o3{x0:Int}{u:List UInt8}(hl:u.length<=100000) (W:-9223372036854775807<=x0/\x0<=9223372036854775807):Ok (ip x0 u) (λr=>(0<=r.1/\r.1<=(u.length:Int))/\(r.2=true->0<=Int.tdiv x0 1000000)):=by
 unfold ip
 refine Ok.bv λX f=>?_
 try have F:=dk x0 1000000
 have G:=(au f).1
 try replace f:=(au f).2 oM
 refine Ok.bv λY H=>Ok.bv λz3 J=>Ok.bv λz4 E=>?_
 exact Ok.sm (by refine⟨by simp only;omega,λh=>?_⟩;simp only at h;rw[E,dT]at h;omega)
theorem kl{x0:List UInt8}{x1 x2:Int}(hl:x0.length<=100000):Ok (fJ x0 x1 x2) (λr=>r.length=x0.length):=by
 unfold fJ
 refine Ok.bv λz2 af=>?_
 have ao:z2.length=x0.length/\bS z2=true:=by rw[af];exact CH x0
 refine Ok.bv λJ4 a7=>?_
 have b0:∀s4:(List Int),(s4.length=x0.length/\bS s4=true)->Ok (J4 s4) (λr=>r.length=x0.length):=by
  intro s4 hs4
  rw[a7]
  refine Ok.cF (by exact hs4.2) λk1=>Ok.bv λz6 b1=>?_
  exact Ok.sm (by rw[b1];simpa[qv]using hs4.1)
 clear a7
 refine Ok.bv λB8 b2=>?_
 subst b2
 refine Ok.lp (λs8:Int × (List Int)=>(0<=s8.1/\s8.1<=(z2.length:Int))/\s8.2.length=x0.length/\bS s8.2=true) (λs8=>((z2.length:Int)-s8.1).toNat) (by exact⟨by simp only;omega,ao⟩) fD λs8 a6 ad J=>Ok.bv λbk W=>Ok.it (λc=>?_) (λc=>?_)
 · try simp only[W,dT]at c
   refine Ok.cF fC λk2=>Ok.bv λbq b3=>Ok.bv λbs X=>Ok.bv λc6 f=>?_
   have b4:=(Aa f).1
   try replace f:=(Aa f).2 oM
   refine Ok.bv λc7 Y=>Ok.bv λc8 a1=>Ok.it (λc=>?_) (λc=>?_)
   · try simp only[a1,Y,X,BL]at c
     refine Ok.bv λcc u=>?_
     have b5:=(Aa u).1
     try replace u:=(Aa u).2 oM
     refine Ok.bv λch E=>?_
     have a8:=(Aa E).1
     try replace E:=(Aa E).2 oM
     refine Ok.cF fC λk3=>Ok.bv λb6 F=>Ok.bv λcp G=>?_
     have b7:=(au G).1
     try replace G:=(au G).2 oM
     exact J _ (by refine⟨by simp only;omega,by simp only[F,List.length_set];omega,?_⟩;simp only[F];exact sG a6.2.2 _ a8) fD
   · try simp only[a1,Y,X,BL]at c
     refine Ok.bv λct H=>?_
     have bb:=(au H).1
     try replace H:=(au H).2 oM
     exact J _ (by exact⟨by simp only;omega,a6.2⟩) fD
 · try simp only[W,dF]at c
   exact b0 _ (by exact a6.2)
theorem cX{x0:V}(h:Rt x0):Ok (b9 x0) (λr=>Rt r/\(r.k=4\/r.k=1)):=by
 unfold b9
 refine Ok.bv λJ6 a7=>?_
 have a8:∀s6:Bool,(s6=true->x0.k=1\/x0.k=4)->Ok (J6 s6) (λr=>Rt r/\(r.k=4\/r.k=1)):=by
  intro s6 b1
  rw[a7]
  have bs:=h.len
  refine Ok.it (λc=>?_) (λc=>?_)
  ·exact Ok.sm (by exact⟨h,(b1 c).symm⟩)
  · refine Ok.bv λz8 ad=>Ok.it (λc=>?_) (λc=>?_)
    · try simp only[ad,dT]at c
      refine Ok.ob (bX fA) λc6 b3 G=>?_
      exact Ok.sm (by first|exact G|exact G.1|exact fB)
    · try simp only[ad,dF]at c
      refine Ok.bv λc7 H=>Ok.it (λc=>?_) (λc=>?_)
      · try simp only[H,dT]at c
        have hn:x0.n=0\/x0.n=1:=by unfold Rt at h;omega
        refine Ok.bv λc8 f=>?_
        have b4:=(au f).1
        try replace f:=(au f).2 oM
        refine Ok.ob (bX oM) λcc b5 J=>?_
        exact Ok.sm (by first|exact J|exact J.1|exact fB)
      · try simp only[H,dF]at c
        refine Ok.bv λch af=>?_
        have ht:=yV x0.s [45]
        refine Ok.ob (qU _ (by rw[af];simp only;omega)) λcp b6 b7=>Ok.bv λct W=>Ok.it (λc=>?_) (λc=>?_)
        · try simp only[W,BL]at c
          refine Ok.ob (av fA) λcx bb X=>?_
          exact Ok.sm (by first|exact X|exact X.1|exact fB)
        · try simp only[W,BL]at c
          refine Ok.bv λb2 Y=>?_
          have a1:∀F:Int,(-9223372036854775807<=F/\F<=9223372036854775807)->Ok (b2 F) (λr=>Rt r/\(r.k=4\/r.k=1)):=by
           intro F ao
           rw[Y]
           refine Ok.ob (bX ao) λcy bk a6=>?_
           exact Ok.sm (by first|exact a6|exact a6.1|exact fB)
          clear Y
          refine Ok.it (λc=>?_) (λc=>?_)
          · refine Ok.bv λda u=>?_
            have bq:=(au u).1
            try replace u:=(au u).2 oM
            exact a1 _ oM
          ·exact a1 _ oM
 clear a7
 refine Ok.bv λdd E=>Ok.it (λc=>?_) (λc=>?_)
 · try simp only[E,dT]at c
   exact a8 _ (by intro g;rw[E,dT]at g;exact .inl g)
 · try simp only[E,dF]at c
   refine Ok.bv λdj b0=>?_
   exact a8 _ (by intro g;rw[b0,dT]at g;exact .inr g)
theorem du{x0:V}(h:Rt x0):Ok (bZ x0) (Rt):=by
 unfold bZ
 refine Ok.bv λJ6 Y=>?_
 have a1:∀s6:Bool,(True)->Ok (J6 s6) (Rt):=by
  intro s6 b2
  rw[Y]
  refine Ok.it (λc=>?_) (λc=>?_)
  ·exact Ok.sm (by exact h)
  · refine Ok.bv λz8 a6=>Ok.it (λc=>?_) (λc=>?_)
    · try simp only[a6,dT]at c
      refine Ok.ob (ba) λb3 a7 f=>?_
      exact Ok.sm (by first|exact f|exact f.1|exact fB)
    · try simp only[a6,dF]at c
      refine Ok.bv λb4 u=>Ok.it (λc=>?_) (λc=>?_)
      · try simp only[u,dT]at c
        refine Ok.bv λb5 a8=>Ok.ob (ba) λb6 ad E=>?_
        exact Ok.sm (by first|exact E|exact E.1|exact fB)
      · try simp only[u,dF]at c
        refine Ok.bv λb7 F=>Ok.bv λbb G=>Ok.bv λbk H=>Ok.it (λc=>?_) (λc=>?_)
        · try simp only[H,G,F,BL]at c
          refine Ok.bv λbq af=>Ok.ob (ba) λbs ao J=>?_
          exact Ok.sm (by first|exact J|exact J.1|exact fB)
        · try simp only[H,G,F,BL]at c
          refine Ok.ob (av fA) λc6 b0 W=>?_
          exact Ok.sm (by first|exact W|exact W.1|exact fB)
 clear Y
 refine Ok.bv λc7 X=>Ok.it (λc=>?_) (λc=>?_)
 · try simp only[X,dT]at c
   exact a1 _ fA
 · try simp only[X,dF]at c
   refine Ok.bv λc8 b1=>?_
   exact a1 _ fA
theorem oc{x0:V}(h:Rt x0):Ok (gE x0) (Rt):=by
 unfold gE
 refine Ok.bv λH f=>Ok.it (λc=>?_) (λc=>?_)
 · try simp only[f,dT]at c
   exact Ok.sm (by exact h)
 · try simp only[f,dF]at c
   refine Ok.ob (j5 h c) λJ E F=>Ok.ob (bM) λW G u=>?_
   exact Ok.sm (by first|exact u|exact u.1|exact fB)
theorem qM{x0 x1:List UInt8}(hl:x1.length<=64):Ok (kp x0 x1) (Rt):=by
 unfold kp
 refine Ok.bv λz4 X=>Ok.it (λc=>?_) (λc=>?_)
 · try simp only[X,dT]at c
   refine Ok.ob (oS fA) λy6 b6 b7=>Ok.ob (eL) λy7 bb a6=>Ok.ob (aY (λ_=>a6)) λy8 bk Y=>?_
   exact Ok.sm (by first|exact Y|exact Y.1|exact fB)
 · try simp only[X,dF]at c
   refine Ok.bv λz9 a1=>Ok.it (λc=>?_) (λc=>?_)
   · try simp only[a1,dT]at c
     refine Ok.ob (kl fA) λbq a7 a8=>Ok.ob (bM) λbs ad f=>?_
     exact Ok.sm (by first|exact f|exact f.1|exact fB)
   · try simp only[a1,dF]at c
     refine Ok.bv λc6 u=>Ok.it (λc=>?_) (λc=>?_)
     · try simp only[u,dT]at c
       refine Ok.ob (kl fA) λc7 af ao=>Ok.ob (bM) λc8 b0 E=>?_
       exact Ok.sm (by first|exact E|exact E.1|exact fB)
     · try simp only[u,dF]at c
       refine Ok.bv λcc F=>Ok.it (λc=>?_) (λc=>?_)
       · try simp only[F,dT]at c
         refine Ok.ob (m_ fA) λch b1 b2=>Ok.ob (bM) λcp b3 G=>?_
         exact Ok.sm (by first|exact G|exact G.1|exact fB)
       · try simp only[F,dF]at c
         refine Ok.bv λct H=>Ok.it (λc=>?_) (λc=>?_)
         · try simp only[H,dT]at c
           refine Ok.ob (cX (.inr (.inr (.inl ⟨O,O,hl⟩)))) λcx b4 J=>?_
           exact Ok.sm (by first|exact J|exact J.1|exact fB)
         · try simp only[H,dF]at c
           refine Ok.ob (av fA) λcy b5 W=>?_
           exact Ok.sm (by first|exact W|exact W.1|exact fB)
theorem p'{x0 x1:List UInt8}{x2:List (Int)}(hl:x1.length<=64) (h2:x2.length<=10) (hx:∀x∈x2,-9223372036854775807<=x/\x<=9223372036854775807) (hr:x0=[82,69,80,84]->x2.length=1):Ok (jn x0 x1 x2) (Rt):=by
 unfold jn
 refine Ok.bv λz3 b7=>Ok.it (λc=>?_) (λc=>?_)
 · try simp only[b7,dT]at c
   refine Ok.ob (av fA) λy5 ed bb=>?_
   exact Ok.sm (by first|exact bb|exact bb.1|exact fB)
 · try simp only[b7,dF]at c
   refine Ok.bv λz6 b5=>?_
   have ef:=(au b5).1
   try replace b5:=(au b5).2 oM
   refine Ok.cF fC λk1=>Ok.bv λz8 b6=>?_
   have bk:=di hx b6 oM
   refine Ok.ob (o3 oM bk) λy9 ei c6=>Ok.bv λej H=>Ok.it (λc=>?_) (λc=>?_)
   · try simp only[H,BL]at c
     refine Ok.ob (av fA) λel cp J=>?_
     exact Ok.sm (by first|exact J|exact J.1|exact fB)
   · try simp only[H,BL]at c
     have hp:=c6.2 c
     refine Ok.bv λeo W=>Ok.it (λc=>?_) (λc=>?_)
     · try simp only[W,dT]at c
       refine Ok.cF fC λk2=>Ok.bv λep ct=>Ok.ob (bM) λer cx X=>?_
       exact Ok.sm (by first|exact X|exact X.1|exact fB)
     · try simp only[W,dF]at c
       refine Ok.bv λet Y=>Ok.it (λc=>?_) (λc=>?_)
       · try simp only[Y,dT]at c
         refine Ok.bv λeu f=>?_
         have cy:=(au f).1
         try replace f:=(au f).2 oM
         refine Ok.cF fC λk3=>Ok.bv λew da=>Ok.ob (bM) λey dd a1=>?_
         exact Ok.sm (by first|exact a1|exact a1.1|exact fB)
       · try simp only[Y,dF]at c
         refine Ok.bv λez a6=>Ok.it (λc=>?_) (λc=>?_)
         · try simp only[a6,dT]at c
           refine Ok.cF fC λk4=>Ok.bv λc7 dj=>Ok.bv λeF u=>?_
           try have dn:=dk c7 1000000
           have dv:=(au u).1
           try replace u:=(au u).2 oM
           refine Ok.bv λeJ a7=>Ok.it (λc=>?_) (λc=>?_)
           · try simp only[a7,dT]at c
             refine Ok.ob (av fA) λeZ dz a8=>?_
             exact Ok.sm (by first|exact a8|exact a8.1|exact fB)
           · try simp only[a7,dF]at c
             refine Ok.bv λff E=>?_
             have e0:=(au E).1
             try replace E:=(au E).2 oM
             refine Ok.bv λfs e1=>Ok.bv λgb F=>?_
             have e2:=(au F).1
             try replace F:=(au F).2 oM
             refine Ok.bv λgf e3=>Ok.cF fC λk5=>Ok.bv λgg e4=>Ok.ob (bM) λgl e5 ad=>?_
             exact Ok.sm (by first|exact ad|exact ad.1|exact fB)
         · try simp only[a6,dF]at c
           refine Ok.bv λgm af=>Ok.it (λc=>?_) (λc=>?_)
           · try simp only[af,dT]at c
             refine Ok.cF fC λk6=>Ok.bv λbq bs=>?_
             have h0:=hr c
             have c8:z6=0:=oM
             rw[c8]at b6
             have cc:bq=z8:=by rw[bs,b6]
             rw[<-cc]at hp
             refine Ok.bv λh3 G=>?_
             try have e6:=dk bq 1000000
             have e7:=(au G).1
             try replace G:=(au G).2 oM
             refine Ok.bv λh4 ao=>Ok.bv λh5 b0=>Ok.bv λh6 b1=>Ok.it (λc=>?_) (λc=>?_)
             · try simp only[b1,b0,ao,BL]at c
               refine Ok.ob (av fA) λh7 e8 b2=>?_
               exact Ok.sm (by first|exact b2|exact b2.1|exact fB)
             · try simp only[b1,b0,ao,BL]at c
               refine Ok.bv λch e9=>Ok.cF (by refine⟨by omega,by omega,?_⟩;exact Nat.le_trans (Nat.mul_le_mul hl (show ch.toNat<=64 by omega)) (by decide)) λk7=>?_
               refine Ok.bv λh8 ea=>Ok.ob (bM) λh9 eb b3=>?_
               exact Ok.sm (by first|exact b3|exact b3.1|exact fB)
           · try simp only[af,dF]at c
             refine Ok.ob (av fA) λha ec b4=>?_
             exact Ok.sm (by first|exact b4|exact b4.1|exact fB)
theorem qt{x0:List UInt8}{x1:List (List UInt8)}(h2:x1.length<=10) (hx:∀t∈x1,t.length<=64):Ok (jz x0 x1) (Rt):=by
 unfold jz
 refine Ok.bv λz3 b0=>Ok.it (λc=>?_) (λc=>?_)
 · try simp only[b0,dT]at c
   refine Ok.cF (by have hj:=join_le hx;omega) λk1=>Ok.bv λz7 e4=>Ok.ob (bM) λy8 e5 b1=>?_
   exact Ok.sm (by first|exact b1|exact b1.1|exact fB)
 · try simp only[b0,dF]at c
   refine Ok.bv λz9 b2=>Ok.bv λe6 u=>Ok.bv λe7 E=>Ok.it (λc=>?_) (λc=>?_)
   · try simp only[E,u,b2,BL]at c
     refine Ok.cF fC λk2=>Ok.bv λe8 cc=>Ok.cF fC λk3=>Ok.bv λe9 ch=>Ok.bv λea cp=>Ok.ob (ba) λeb ct F=>?_
     exact Ok.sm (by first|exact F|exact F.1|exact fB)
   · try simp only[E,u,b2,BL]at c
     refine Ok.bv λec G=>Ok.bv λed H=>Ok.bv λef J=>Ok.it (λc=>?_) (λc=>?_)
     · try simp only[J,H,G,BL]at c
       refine Ok.cF fC λk4=>Ok.bv λei b3=>?_
       have cx:=di hx b3 oM
       refine Ok.cF fC λk5=>Ok.bv λej cy=>Ok.cF fC λk6=>Ok.bv λel da=>Ok.bv λeo W=>Ok.it (λc=>?_) (λc=>?_)
       · try simp only[W,dT]at c
         refine Ok.ob (av fA) λep dd X=>?_
         exact Ok.sm (by first|exact X|exact X.1|exact fB)
       · try simp only[W,dF]at c
         refine Ok.bv λer f=>?_
         have dj:=(au f).1
         try replace f:=(au f).2 oM
         refine Ok.ob (eL) λet dn b4=>Ok.ob (aY (λ_=>b4)) λeu dv Y=>?_
         exact Ok.sm (by first|exact Y|exact Y.1|exact fB)
     · try simp only[J,H,G,BL]at c
       refine Ok.bv λew a1=>Ok.bv λey a6=>Ok.bv λez a7=>Ok.it (λc=>?_) (λc=>?_)
       · try simp only[a7,a6,a1,BL]at c
         refine Ok.cF fC λk7=>Ok.bv λb5 b6=>Ok.bv λeF a8=>Ok.it (λc=>?_) (λc=>?_)
         · try simp only[a8,dT]at c
           refine Ok.cF fC λk8=>Ok.bv λeJ dz=>Ok.ob (bM) λeZ e0 ad=>?_
           exact Ok.sm (by first|exact ad|exact ad.1|exact fB)
         · try simp only[a8,dF]at c
           have b7:1<=b5.length:=List.length_pos_iff.2 c
           refine Ok.cF fC λk9=>Ok.bv λff bb=>?_
           have bk:=di hx bb oM
           refine Ok.cF fC λfs=>Ok.bv λc7 bq=>?_
           have c8:c7=b5:=by rw[bq,b6]
           refine Ok.cF fC λgb=>Ok.bv λgf bs=>?_
           have c6:=di hx bs oM
           refine Ok.cF (by exact Cu bk (by rw[c8];exact b7) c6) λgg=>Ok.bv λgl e1=>Ok.ob (bM) λgm e2 af=>?_
           exact Ok.sm (by first|exact af|exact af.1|exact fB)
       · try simp only[a7,a6,a1,BL]at c
         refine Ok.ob (av fA) λh0 e3 ao=>?_
         exact Ok.sm (by first|exact ao|exact ao.1|exact fB)
end Go.Sp
end
section
set_option maxRecDepth 100000
namespace Go.Sp
open Go.Stp Go.ValP
theorem qJ{x0:List UInt8}{x1:Int}(h:-9223372036854775807<=x1/\x1<=9223372036854775807):Ok (kb x0 x1) (λr=>Rt r/\(r.k=4\/r.k=1)):=by
 unfold kb
 refine Ok.bv λJ3 bb=>?_
 have cx:∀s3:Int × Int × (List UInt8),(True)->Ok (J3 s3) (λr=>Rt r/\(r.k=4\/r.k=1)):=by
  intro s3 ej
  rw[bb]
  refine Ok.ob (av fA) λy4 el bk=>?_
  exact Ok.sm (by first|exact bk|exact bk.1|exact fB)
 clear bb
 refine Ok.bv λz6 bq=>Ok.it (λc=>?_) (λc=>?_)
 · try simp only[bq,dT]at c
   refine Ok.bv λz8 b6=>?_
   have eo:=(au b6).1
   try replace b6:=(au b6).2 oM
   refine Ok.bv λz9 ep=>Ok.ob (bX oM) λer dj G=>?_
   exact Ok.sm (by first|exact G|exact G.1|exact fB)
 · try simp only[bq,dF]at c
   refine Ok.bv λet H=>Ok.it (λc=>?_) (λc=>?_)
   · try simp only[H,dT]at c
     refine Ok.bv λeu dn=>Ok.bv λew dv=>Ok.ob (dY) λey dz J=>?_
     exact Ok.sm (by first|exact J|exact J.1|exact fB)
   · try simp only[H,dF]at c
     refine Ok.bv λez W=>Ok.it (λc=>?_) (λc=>?_)
     · try simp only[W,dT]at c
       refine Ok.ob (qT) λeF e0 bs=>Ok.ob (aY bs) λeJ e1 X=>?_
       exact Ok.sm (by first|exact X|exact X.1|exact fB)
     · try simp only[W,dF]at c
       refine Ok.bv λeZ Y=>Ok.it (λc=>?_) (λc=>?_)
       · try simp only[Y,dT]at c
         refine Ok.bv λff c6=>Ok.bv λfs f=>?_
         have tq:=o7 x1 (c:=1000000) (by decide)
         rw[<-c6]at tq
         have e2:=(au f).1
         try replace f:=(au f).2 oM
         refine Ok.ob (bX oM) λgb e3 a1=>?_
         exact Ok.sm (by first|exact a1|exact a1.1|exact fB)
       · try simp only[Y,dF]at c
         refine Ok.bv λcy a6=>?_
         have a7:∀c7:Bool,(True)->Ok (cy c7) (λr=>Rt r/\(r.k=4\/r.k=1)):=by
          intro c7 e4
          rw[a6]
          refine Ok.it (λc=>?_) (λc=>?_)
          · refine Ok.bv λgf e5=>Ok.ob (qd) λgg e6 a8=>?_
            exact Ok.sm (by first|exact a8|exact a8.1|exact fB)
          · refine Ok.bv λgl ad=>Ok.it (λc=>?_) (λc=>?_)
            · try simp only[ad,dT]at c
              refine Ok.ob (k_ fA) λda e7 c8=>?_
              have gm:da.length=1:=c8.1
              refine Ok.cF fC λk1=>Ok.bv λh0 e8=>Ok.bv λh2 af=>Ok.bv λh3 ao=>Ok.bv λh4 b0=>Ok.it (λc=>?_) (λc=>?_)
              · try simp only[b0,ao,af,BL]at c
                refine Ok.ob (av fA) λh5 e9 b1=>?_
                exact Ok.sm (by first|exact b1|exact b1.1|exact fB)
              · try simp only[b0,ao,af,BL]at c
                refine Ok.bv λdd b2=>?_
                have cc:∀ch:Int,(True)->Ok (dd ch) (λr=>Rt r/\(r.k=4\/r.k=1)):=by
                 intro ch ea
                 rw[b2]
                 refine Ok.ob (dY) λh6 eb b3=>?_
                 exact Ok.sm (by first|exact b3|exact b3.1|exact fB)
                clear b2
                refine Ok.bv λh7 cp=>?_
                subst cp
                refine Ok.lp (λu:Int × Int=>2<=u.2/\u.2<=21) (λu=>(21-u.2).toNat) fE fD λu ec ct b7=>?_
                refine Ok.bv λh8 b4=>Ok.it (λc=>?_) (λc=>?_)
                · try simp only[b4,dT]at c
                  refine Ok.bv λh9 E=>?_
                  have ed:=(au E).1
                  try replace E:=(au E).2 oM
                  refine Ok.bv λha F=>?_
                  have ef:=(au F).1
                  try replace F:=(au F).2 oM
                  exact b7 _ fE fD
                · try simp only[b4,dF]at c
                  exact cc _ fA
            · try simp only[ad,dF]at c
              exact cx _ fA
         clear a6
         refine Ok.bv λhb b5=>Ok.it (λc=>?_) (λc=>?_)
         · try simp only[b5,dT]at c
           exact a7 _ fA
         · try simp only[b5,dF]at c
           refine Ok.bv λhc ei=>?_
           exact a7 _ fA
theorem qK{x0:List UInt8}{x1 x2:Int}(h1:-9223372036854775807<=x1/\x1<=9223372036854775807) (h2:-9223372036854775807<=x2/\x2<=9223372036854775807):Ok (kd x0 x1 x2) (λr=>Rt r/\(r.k=4\/r.k=1)):=by
 unfold kd
 refine Ok.ob (k_ fA) λy3 hY ew=>?_
 obtain⟨e9,ea⟩:=ew
 have e9:y3.length=2:=e9
 refine Ok.bv λz7 eb=>Ok.it (λc=>?_) (λc=>?_)
 · try simp only[eb,dT]at c
   refine Ok.cF fC λk1=>Ok.bv λey ec=>Ok.bv λhZ E=>Ok.cF (by first|(simp only[E,BL];omega)|(simp[E];omega)|(simp[E];done)|exact fC) λk2=>Ok.bv λed b2=>Ok.bv λih b3=>Ok.bv λjo b4=>Ok.it (λc=>?_) (λc=>?_)
   · try simp only[b4,b3,E,BL]at c
     refine Ok.ob (av fA) λkc h7 b5=>?_
     exact Ok.sm (by first|exact b5|exact b5.1|exact fB)
   · try simp only[b4,b3,E,BL]at c
     refine Ok.cF fC λk3=>Ok.bv λez ef=>?_
     have h8:ez=ed:=by rw[ef,b2]
     have h9:ed=ey:=by rw[b2,ec]
     refine Ok.ob (oP h1 oM) λki ha b6=>?_
     exact Ok.sm (by first|exact b6|exact b6.1|exact fB)
 · try simp only[eb,dF]at c
   refine Ok.bv λkk b7=>Ok.it (λc=>?_) (λc=>?_)
   · try simp only[b7,dT]at c
     refine Ok.bv λkx bb=>Ok.it (λc=>?_) (λc=>?_)
     · try simp only[bb,dT]at c
       refine Ok.ob (av fA) λky hb bk=>?_
       exact Ok.sm (by first|exact bk|exact bk.1|exact fB)
     · try simp only[bb,dF]at c
       refine Ok.cF fC λk4=>Ok.bv λX ei=>?_
       have tq:X.natAbs<x2.natAbs/\(0<=x1->0<=X):=by
        rw[ei]
        exact⟨ug x1 oM,λh=>Int.tmod_nonneg x2 h⟩
       refine Ok.bv λeF bq=>?_
       have bs:∀b1:Int,(-9223372036854775807<=b1/\b1<=9223372036854775807)->Ok (eF b1) (λr=>Rt r/\(r.k=4\/r.k=1)):=by
        intro b1 ej
        rw[bq]
        refine Ok.ob (bX ej) λkz hc c6=>?_
        exact Ok.sm (by first|exact c6|exact c6.1|exact fB)
       clear bq
       refine Ok.bv λl0 c7=>Ok.bv λl2 c8=>Ok.bv λl3 cc=>Ok.bv λmb ch=>Ok.bv λml cp=>Ok.it (λc=>?_) (λc=>?_)
       · try simp only[cp,ch,cc,c8,c7,BL]at c
         refine Ok.bv λmm Y=>?_
         have mn:(X<0/\0<x2)\/(0<X/\x2<0):=by by_cases q1:X<0<;>by_cases q2:x2<0<;>simp[q1,q2]at c<;>omega
         have hf:=(au Y).1
         try replace Y:=(au Y).2 oM
         exact bs _ fA
       · try simp only[cp,ch,cc,c8,c7,BL]at c
         exact bs _ fA
   · try simp only[b7,dF]at c
     refine Ok.bv λmo ct=>Ok.it (λc=>?_) (λc=>?_)
     · try simp only[ct,dT]at c
       refine Ok.bv λmu hg=>Ok.bv λmv f=>Ok.cF (by first|(simp only[f,BL];omega)|(simp[f];omega)|(simp[f];done)|exact fC) λk5=>Ok.bv λn0 hj=>Ok.bv λn2 F=>Ok.bv λn5 G=>Ok.cF (by first|(simp only[G,F,f,BL];omega)|(simp[G,F,f];omega)|(simp[G,F,f];done)|exact fC) λk6=>Ok.bv λeJ el=>Ok.bv λna cx=>Ok.bv λnb cy=>Ok.it (λc=>?_) (λc=>?_)
       · try simp only[cy,cx,G,F,f,BL]at c
         refine Ok.ob (av fA) λnk hn da=>?_
         exact Ok.sm (by first|exact da|exact da.1|exact fB)
       · try simp only[cy,cx,G,F,f,BL]at c
         refine Ok.cF fC λk7=>Ok.bv λeZ eo=>?_
         have ho:eZ=eJ:=by rw[eo,el]
         refine Ok.ob (oR oM oM) λnl hq dd=>?_
         exact Ok.sm (by first|exact dd|exact dd.1|exact fB)
     · try simp only[ct,dF]at c
       refine Ok.bv λnn dj=>Ok.it (λc=>?_) (λc=>?_)
       · try simp only[dj,dT]at c
         refine Ok.bv λnx dn=>Ok.it (λc=>?_) (λc=>?_)
         · try simp only[dn,dT]at c
           refine Ok.ob (av fA) λo0 hr dv=>?_
           exact Ok.sm (by first|exact dv|exact dv.1|exact fB)
         · try simp only[dn,dF]at c
           refine Ok.cF fC λk8=>Ok.bv λo2 a1=>?_
           try have ht:=dk x1 x2
           have hv:=(au a1).1
           try replace a1:=(au a1).2 oM
           refine Ok.ob (dY) λo5 hx dz=>?_
           exact Ok.sm (by first|exact dz|exact dz.1|exact fB)
       · try simp only[dj,dF]at c
         refine Ok.bv λff e0=>?_
         have e1:∀ep:Bool,(True)->Ok (ff ep) (λr=>Rt r/\(r.k=4\/r.k=1)):=by
          intro ep hy
          rw[e0]
          refine Ok.it (λc=>?_) (λc=>?_)
          · refine Ok.cF fC λk9=>Ok.bv λo9 hA=>Ok.bv λod H=>Ok.cF (by first|(simp only[H,BL];omega)|(simp[H];omega)|(simp[H];done)|exact fC) λoh=>Ok.bv λp0 hB=>Ok.bv λp1 e2=>Ok.bv λp2 e3=>Ok.it (λc=>?_) (λc=>?_)
            · try simp only[e3,e2,H,BL]at c
              refine Ok.ob (av fA) λp6 hD e4=>?_
              exact Ok.sm (by first|exact e4|exact e4.1|exact fB)
            · try simp only[e3,e2,H,BL]at c
              refine Ok.cF fC λp7=>Ok.bv λp8 er=>?_
              have g1:=di ea er oM
              refine Ok.cF fC λp9=>Ok.bv λpa et=>?_
              have g2:=di ea et oM
              refine Ok.ob (qG g2) λfs hE hF=>Ok.bv λpb e5=>Ok.bv λpe e6=>Ok.bv λq0 e7=>Ok.it (λc=>?_) (λc=>?_)
              · try simp only[e7,e6,e5,BL]at c
                refine Ok.ob (dY) λq3 hG e8=>?_
                exact Ok.sm (by first|exact e8|exact e8.1|exact fB)
              · try simp only[e7,e6,e5,BL]at c
                refine Ok.cF fC λq4=>Ok.bv λgb hI=>Ok.cF fC λq5=>Ok.bv λq6 a6=>?_
                try have hJ:=dk gb fs
                have hK:=(au a6).1
                try replace a6:=(au a6).2 oM
                refine Ok.cF fC λq7=>Ok.bv λqa hL=>Ok.bv λqb u=>Ok.cF (by first|(simp only[u,BL];omega)|(simp[u];omega)|(simp[u];done)|exact fC) λqc=>Ok.bv λeu gf=>Ok.cF (by first|(simp only[u,BL];omega)|(simp[u];omega)|(simp[u];done)|exact fC) λql=>Ok.bv λhN J=>?_
                try have gg:=dk 9223372036854 eu
                have gl:=(au J).1
                try replace J:=(au J).2 oM
                refine Ok.bv λhP a7=>Ok.bv λhQ a8=>Ok.it (λc=>?_) (λc=>?_)
                · try simp only[a8,a7,u,BL]at c
                  refine Ok.ob (av fA) λhR gm ad=>?_
                  exact Ok.sm (by first|exact ad|exact ad.1|exact fB)
                · try simp only[a8,a7,u,BL]at c
                  refine Ok.cF fC λqm=>Ok.bv λhS h0=>Ok.bv λhT W=>?_
                  have h3:=(au W).1
                  try replace W:=(au W).2 oM
                  refine Ok.ob (dY) λhU h4 af=>?_
                  exact Ok.sm (by first|exact af|exact af.1|exact fB)
          · refine Ok.ob (av fA) λhV h5 ao=>?_
            exact Ok.sm (by first|exact ao|exact ao.1|exact fB)
         clear e0
         refine Ok.bv λhW b0=>Ok.it (λc=>?_) (λc=>?_)
         · try simp only[b0,dT]at c
           exact e1 _ fA
         · try simp only[b0,dF]at c
           refine Ok.bv λhX h6=>?_
           exact e1 _ fA
theorem lJ{x0 x1:List (V)}(hl:x0.length<=1000) (hx:∀x∈x0,Rt x) (ch:x1.length<=1000) (a8:∀x∈x1,Rt x):Ok (dX x0 x1) (Rt):=by
 unfold dX
 refine Ok.bv λz3 ad=>Ok.it (λc=>?_) (λc=>?_)
 · try simp only[ad,BL]at c
   refine Ok.ob (av fA) λy5 cp af=>?_
   exact Ok.sm (by first|exact af|exact af.1|exact fB)
 · try simp only[ad,BL]at c
   refine Ok.ob (bX fA) λy6 ct b7=>Ok.bv λJ9 ao=>?_
   have bb:∀s9:Int × Int × (List UInt8) × Int × Int × (List UInt8),(Rt ⟨s9.2.2.2.1,s9.2.2.2.2.1,s9.2.2.2.2.2⟩)->Ok (J9 s9) (Rt):=by
    intro s9 cx
    rw[ao]
    exact Ok.sm fB
   clear ao
   refine Ok.bv λcy b0=>?_
   subst b0
   refine Ok.lp (λf:Int × Int × Int × (List UInt8) × Int × Int × (List UInt8)=>(0<=f.1/\f.1<=(x0.length:Int))/\Rt ⟨f.2.2.2.2.1,f.2.2.2.2.2.1,f.2.2.2.2.2.2⟩) (λf=>((x0.length:Int)-f.1).toNat) (by exact⟨by simp only;omega,b7.1⟩) fD λf E b1 F=>Ok.bv λda W=>Ok.it (λc=>?_) (λc=>?_)
   · try simp only[W,dT]at c
     refine Ok.cF fC λk1=>Ok.bv λdd bk=>Ok.bv λdj u=>Ok.cF (by first|(simp only[u,BL];omega)|(simp[u];omega)|(simp[u];done)|exact fC) λk2=>Ok.bv λdn bq=>Ok.bv λdv X=>Ok.bv λdz Y=>Ok.it (λc=>?_) (λc=>?_)
     · try simp only[Y,X,u,BL]at c
       refine Ok.bv λe0 G=>?_
       have bs:=(au G).1
       try replace G:=(au G).2 oM
       exact F _ (by exact⟨by simp only;omega,E.2⟩) fD
     · try simp only[Y,X,u,BL]at c
       refine Ok.cF fC λk3=>Ok.bv λe1 b2=>?_
       have g1:=di hx b2 oM
       refine Ok.cF fC λk4=>Ok.bv λe2 b3=>?_
       have g2:=di a8 b3 oM
       refine Ok.ob (gB (by simp) (Az g1 g2)) λe3 c6 b4=>Ok.ob (ik (by simp) (Az E.2 b4.1)) λe4 c7 H=>Ok.cF fC λk5=>Ok.bv λe5 b5=>?_
       have g3:=di hx b5 oM
       refine Ok.cF fC λk6=>Ok.bv λe6 b6=>?_
       have g4:=di a8 b6 oM
       refine Ok.ob (gB (by simp) (Az g3 g4)) λe7 c8 a1=>Ok.bv λe8 a6=>Ok.it (λc=>?_) (λc=>?_)
       · try simp only[a6,dT]at c
         exact Ok.sm (by first|exact a1|exact a1.1|exact fB)
       · try simp only[a6,dF]at c
         refine Ok.bv λe9 a7=>Ok.it (λc=>?_) (λc=>?_)
         · try simp only[a7,dT]at c
           exact Ok.sm (by first|exact H|exact H.1|exact fB)
         · try simp only[a7,dF]at c
           refine Ok.bv λea J=>?_
           have cc:=(au J).1
           try replace J:=(au J).2 oM
           exact F _ (by exact⟨by simp only;omega,H.1⟩) fD
   · try simp only[W,dF]at c
     exact bb _ (by exact E.2)
end Go.Sp
end
section
set_option maxRecDepth 100000
namespace Go.Sp
open Go.Stp Go.ValP
def EX:List (List UInt8 × Nat × Nat):=[([73,70],2,3),
 ([73,70,69,82,82,79,82],2,2),
 ([65,78,68],1,9),
 ([79,82],1,9),
 ([67,72,79,79,83,69],2,9),
 ([65,66,83],1,1),
 ([83,73,71,78],1,1),
 ([73,78,84],1,1),
 ([82,79,85,78,68],2,2),
 ([77,79,68],2,2),
 ([80,79,87,69,82],2,2),
 ([81,85,79,84,73,69,78,84],2,2),
 ([71,67,68],2,2),
 ([76,67,77],2,2),
 ([70,65,67,84],1,1),
 ([69,86,69,78],1,1),
 ([79,68,68],1,1),
 ([84,82,85,78,67],1,1),
 ([77,73,78],1,9),
 ([77,65,88],1,9),
 ([83,85,77],1,9),
 ([80,82,79,68,85,67,84],1,9),
 ([67,79,85,78,84],1,9),
 ([67,79,85,78,84,65],1,9),
 ([67,79,85,78,84,66,76,65,78,75],1,1),
 ([65,86,69,82,65,71,69],1,9),
 ([83,85,77,73,70],2,2),
 ([67,79,85,78,84,73,70],2,2),
 ([83,85,77,80,82,79,68,85,67,84],2,2),
 ([76,69,78],1,1),
 ([76,69,70,84],2,2),
 ([82,73,71,72,84],2,2),
 ([77,73,68],3,3),
 ([85,80,80,69,82],1,1),
 ([76,79,87,69,82],1,1),
 ([84,82,73,77],1,1),
 ([67,79,78,67,65,84],1,9),
 ([82,69,80,84],2,2),
 ([70,73,78,68],2,2),
 ([83,85,66,83,84,73,84,85,84,69],3,3),
 ([69,88,65,67,84],2,2),
 ([86,65,76,85,69],1,1),
 ([78,79,84],1,1),
 ([73,83,78,85,77,66,69,82],1,1),
 ([73,83,84,69,88,84],1,1),
 ([73,83,66,76,65,78,75],1,1),
 ([73,83,69,82,82,79,82],1,1),
 ([73,83,76,79,71,73,67,65,76],1,1),
 ([78,65],0,0),
 ([73,78,68,69,88],3,3),
 ([77,65,84,67,72],2,2),
 ([86,76,79,79,75,85,80],3,3),
 ([82,79,87,83],1,1),
 ([67,79,76,85,77,78,83],1,1)]
def Ep(nm:List UInt8):Nat:=((EX.find? λx=>x.1 == nm).map λx=>x.2.1).getD 0
def EZ(nm:List UInt8):Nat:=((EX.find? λx=>x.1 == nm).map λx=>x.2.2).getD 0
def zE(c n:Nat):Bool:=match fH (c+6:Nat),cn (c+6:Nat) (n:Nat)with
 |some nm,some b=>!b||(decide (Ep nm<=n)&&decide (n<=EZ nm)&&(decide (nm=[78,65])||decide (1<=n)))
 |_,_=>false
theorem ve:((List.range 49).all λc=>(List.range 10).all λn=>zE c n)=true:=by decide +kernel
theorem uJ{c:Int}{n:Nat}(h:6<=c/\c<=54) (G:n<=9):∃nm b,fH c=some nm/\cn c (n:Int)=some b/\(b=true->Ep nm<=n/\n<=EZ nm/\(nm=[78,65]\/1<=n)):=by
 have f:=List.all_eq_true.1 (List.all_eq_true.1 ve (c-6).toNat (List.mem_range.2 oM)) n (List.mem_range.2 oM)
 unfold zE at f
 rw[show(((c-6).toNat+6:Nat):Int)=c by omega]at f
 split at f
 · rename_i nm b u E
   refine⟨nm,b,u,E,λF=>?_⟩
   subst F
   simp at f
   exact⟨f.1.1,f.1.2,f.2⟩
 ·cases f
structure jR (a:Arg):Prop where
 len:a.l.length<=100
 mem:∀x∈a.l,Rt x
 cols:a.cols=1\/a.cols=2
theorem jR.rt{a:Arg}(h:jR a):∀x∈a.l,Rt x:=h.mem
theorem jR.vD{a:Arg}(h:jR a):a.l.length<=1000:=by have:=h.len;omega
theorem DA:Rt ⟨0,0,[]⟩:=.inl ⟨rfl,rfl,rfl⟩
theorem cP{x0:Arg}(h:jR x0):Ok (cr x0) (Rt):=by
 unfold cr
 refine Ok.bv λG f=>Ok.it (λc=>?_) (λc=>?_)
 · try simp only[f,BL]at c
   refine Ok.ob (av fA) λH F u=>?_
   exact Ok.sm (by first|exact u|exact u.1|exact fB)
 · try simp only[f,BL]at c
   refine Ok.cF fC λJ=>Ok.bv λW E=>?_
   exact Ok.sm (by exact di h.rt E oM)
theorem gz{x0:List (Arg)}(hl:x0.length<=9) (hx:∀a∈x0,jR a):Ok (fi x0) (λr=>Rt r.2/\(r.2.k≠4->r.1.length=x0.length/\∀x∈r.1,-9223372036854775807<=x/\x<=9223372036854775807)):=by
 unfold fi
 refine Ok.bv λJ3 H=>?_
 have a8:∀s3:Int × Int × (List UInt8) × (List (Int)),(s3.2.2.2.length=x0.length/\∀x∈s3.2.2.2,-9223372036854775807<=x/\x<=9223372036854775807)->Ok (J3 s3) (λr=>Rt r.2/\(r.2.k≠4->r.1.length=x0.length/\∀x∈r.1,-9223372036854775807<=x/\x<=9223372036854775807)):=by
  intro s3 ad
  rw[H]
  exact Ok.sm (by exact⟨DA,λ_=>ad⟩)
 clear H
 refine Ok.bv λB6 af=>?_
 subst af
 refine Ok.lp (λu:Int × Int × Int × (List UInt8) × (List (Int))=>(0<=u.1/\u.1<=(x0.length:Int))/\(u.2.2.2.2.length:Int)=u.1/\∀x∈u.2.2.2.2,-9223372036854775807<=x/\x<=9223372036854775807) (λu=>((x0.length:Int)-u.1).toNat) (by refine⟨by simp only;omega,rfl,λx hx=>?_⟩;cases hx) fD λu J a7 W=>?_
 refine Ok.bv λz9 X=>Ok.it (λc=>?_) (λc=>?_)
 · try simp only[X,dT]at c
   refine Ok.cF fC λk1=>Ok.bv λb2 Y=>?_
   have a1:=di hx Y oM
   refine Ok.ob (cP a1) λb3 ao a6=>Ok.ob (cX a6) λb4 b0 E=>?_
   have hn:=E.1.n
   refine Ok.bv λb5 F=>Ok.it (λc=>?_) (λc=>?_)
   · try simp only[F,dT]at c
     exact Ok.sm (by exact⟨E.1,λg=>absurd c g⟩)
   · try simp only[F,dF]at c
     refine Ok.cF fC λk2=>Ok.bv λb6 G=>Ok.bv λb7 f=>?_
     have b1:=(au f).1
     try replace f:=(au f).2 oM
     exact W _ (by refine⟨by simp only;omega,by simp only[G,List.length_append,List.length_singleton];omega,?_⟩;simp only[G];exact eN J.2.2 hn) fD
 · try simp only[X,dF]at c
   exact a8 _ (by exact⟨by simp only;omega,J.2.2⟩)
theorem lh{x0:List (Arg)}(hl:x0.length<=9) (hx:∀a∈x0,jR a):Ok (gS x0) (λr=>Rt r.2/\(r.2.k≠4->r.1.length=x0.length/\∀t∈r.1,t.length<=64)):=by
 unfold gS
 refine Ok.bv λJ3 H=>?_
 have a8:∀s3:Int × Int × (List UInt8) × (List (List UInt8)),(s3.2.2.2.length=x0.length/\∀t∈s3.2.2.2,t.length<=64)->Ok (J3 s3) (λr=>Rt r.2/\(r.2.k≠4->r.1.length=x0.length/\∀t∈r.1,t.length<=64)):=by
  intro s3 ad
  rw[H]
  exact Ok.sm (by exact⟨DA,λ_=>ad⟩)
 clear H
 refine Ok.bv λB6 af=>?_
 subst af
 refine Ok.lp (λu:Int × Int × Int × (List UInt8) × (List (List UInt8))=>(0<=u.1/\u.1<=(x0.length:Int))/\(u.2.2.2.2.length:Int)=u.1/\∀t∈u.2.2.2.2,t.length<=64) (λu=>((x0.length:Int)-u.1).toNat) (by refine⟨by simp only;omega,rfl,λx hx=>?_⟩;cases hx) fD λu J a7 W=>?_
 refine Ok.bv λz9 X=>Ok.it (λc=>?_) (λc=>?_)
 · try simp only[X,dT]at c
   refine Ok.cF fC λk1=>Ok.bv λb2 Y=>?_
   have a1:=di hx Y oM
   refine Ok.ob (cP a1) λb3 ao a6=>Ok.ob (oc a6) λb4 b0 E=>?_
   have hn:=E.len
   refine Ok.bv λb5 F=>Ok.it (λc=>?_) (λc=>?_)
   · try simp only[F,dT]at c
     exact Ok.sm (by exact⟨E,λg=>absurd c g⟩)
   · try simp only[F,dF]at c
     refine Ok.cF fC λk2=>Ok.bv λb6 G=>Ok.bv λb7 f=>?_
     have b1:=(au f).1
     try replace f:=(au f).2 oM
     exact W _ (by refine⟨by simp only;omega,by simp only[G,List.length_append,List.length_singleton];omega,?_⟩;simp only[G];exact eN J.2.2 hn) fD
 · try simp only[X,dF]at c
   exact a8 _ (by exact⟨by simp only;omega,J.2.2⟩)
theorem dR{x0:List (Arg)}(hl:x0.length<=9) (hx:∀a∈x0,jR a):Ok (dW x0) (λr=>r.length<=1000/\∀x∈r,Rt x):=by
 unfold dW
 refine Ok.bv λJ2 G=>?_
 have a6:∀Y:(List (V)),(Y.length<=1000/\∀x∈Y,Rt x)->Ok (J2 Y) (λr=>r.length<=1000/\∀x∈r,Rt x):=by
  intro Y ad
  rw[G]
  exact Ok.sm fB
 clear G
 refine Ok.bv λB5 a7=>?_
 subst a7
 refine Ok.lp (λu:Int × (List (V))=>(0<=u.1/\u.1<=(x0.length:Int))/\(u.2.length:Int)<=100*u.1/\∀x∈u.2,Rt x) (λu=>((x0.length:Int)-u.1).toNat) (by refine⟨by simp only;omega,by simp,λx hx=>?_⟩;cases hx) fD λu H a1 J=>?_
 refine Ok.bv λz8 W=>Ok.it (λc=>?_) (λc=>?_)
 · try simp only[W,dT]at c
   refine Ok.cF fC λk1=>Ok.bv λaf X=>?_
   have E:=di hx X oM
   have ao:=E.len
   refine Ok.cF fC λk2=>Ok.bv λb0 F=>Ok.bv λb1 f=>?_
   have a8:=(au f).1
   try replace f:=(au f).2 oM
   exact J _ (by refine⟨by simp only;omega,by simp only[F,List.length_append];omega,?_⟩;simp only[F];exact A5 H.2.2 E.rt) fD
 · try simp only[W,dF]at c
   exact a6 _ (by exact⟨oM,H.2.2⟩)
theorem pP{x0:List UInt8}{x1:V}(h:Rt x1):Ok (jy x0 x1) (Rt):=by
 unfold jy
 refine Ok.bv λz5 a7=>Ok.it (λc=>?_) (λc=>?_)
 · try simp only[a7,dT]at c
   refine Ok.bv λz7 bq=>Ok.ob (ba) λy8 bs a8=>?_
   exact Ok.sm (by first|exact a8|exact a8.1|exact fB)
 · try simp only[a7,dF]at c
   refine Ok.bv λz9 ad=>Ok.it (λc=>?_) (λc=>?_)
   · try simp only[ad,dT]at c
     refine Ok.bv λc6 af=>Ok.ob (ba) λc7 ao f=>?_
     exact Ok.sm (by first|exact f|exact f.1|exact fB)
   · try simp only[ad,dF]at c
     refine Ok.bv λc8 u=>Ok.it (λc=>?_) (λc=>?_)
     · try simp only[u,dT]at c
       refine Ok.bv λcc b0=>Ok.ob (ba) λch b1 E=>?_
       exact Ok.sm (by first|exact E|exact E.1|exact fB)
     · try simp only[u,dF]at c
       refine Ok.bv λcp F=>Ok.it (λc=>?_) (λc=>?_)
       · try simp only[F,dT]at c
         refine Ok.bv λct b2=>Ok.ob (ba) λcx b3 G=>?_
         exact Ok.sm (by first|exact G|exact G.1|exact fB)
       · try simp only[F,dF]at c
         refine Ok.bv λcy H=>Ok.it (λc=>?_) (λc=>?_)
         · try simp only[H,dT]at c
           refine Ok.bv λda b4=>Ok.ob (ba) λdd b5 J=>?_
           exact Ok.sm (by first|exact J|exact J.1|exact fB)
         · try simp only[H,dF]at c
           refine Ok.bv λdj W=>Ok.it (λc=>?_) (λc=>?_)
           · try simp only[W,dT]at c
             refine Ok.ob (du h) λdn b6 X=>Ok.bv λdv Y=>Ok.it (λc=>?_) (λc=>?_)
             · try simp only[Y,dT]at c
               exact Ok.sm (by first|exact X|exact X.1|exact fB)
             · try simp only[Y,dF]at c
               refine Ok.bv λdz b7=>Ok.ob (ba) λe0 bb a1=>?_
               exact Ok.sm (by first|exact a1|exact a1.1|exact fB)
           · try simp only[W,dF]at c
             refine Ok.ob (av fA) λe1 bk a6=>?_
             exact Ok.sm (by first|exact a6|exact a6.1|exact fB)
theorem pz{x0:List UInt8}{f:List (Arg)}(hl:f.length<=9) (u:∀a∈f,jR a) (E:Ep x0<=f.length) (hK:x0=[78,65]\/1<=f.length):Ok (jA x0 f) (Rt):=by
 unfold jA
 refine Ok.bv λJ5 ez=>?_
 have eF:∀s5:Bool,(True)->Ok (J5 s5) (Rt):=by
  intro s5 ra
  rw[ez]
  refine Ok.it (λc=>?_) (λc=>?_)
  · refine Ok.bv λz7 rb=>Ok.ob (dR fA fA) λy8 rh eJ=>Ok.ob (np eJ.1 eJ.2) λrl hY bb=>?_
    exact Ok.sm (by first|exact bb|exact bb.1|exact fB)
  · refine Ok.bv λrm bk=>Ok.it (λc=>?_) (λc=>?_)
    · try simp only[bk,dT]at c
      refine Ok.ob (dR fA fA) λrq hZ bq=>Ok.ob (ik bq.1 bq.2) λrr ih bs=>?_
      exact Ok.sm (by first|exact bs|exact bs.1|exact fB)
    · try simp only[bk,dF]at c
      refine Ok.bv λrs c6=>Ok.it (λc=>?_) (λc=>?_)
      · try simp only[c6,dT]at c
        refine Ok.ob (dR fA fA) λru jo c7=>Ok.ob (gB c7.1 c7.2) λs0 kc c8=>?_
        exact Ok.sm (by first|exact c8|exact c8.1|exact fB)
      · try simp only[c6,dF]at c
        refine Ok.bv λs3 cc=>Ok.it (λc=>?_) (λc=>?_)
        · try simp only[cc,dT]at c
          refine Ok.ob (dR fA fA) λs4 ki eZ=>Ok.ob (iL eZ.1) λs6 kk ch=>?_
          exact Ok.sm (by first|exact ch|exact ch.1|exact fB)
        · try simp only[cc,dF]at c
          refine Ok.bv λs7 cp=>Ok.it (λc=>?_) (λc=>?_)
          · try simp only[cp,dT]at c
            refine Ok.ob (dR fA fA) λs8 kx ff=>Ok.ob (iL ff.1) λs9 ky ct=>?_
            exact Ok.sm (by first|exact ct|exact ct.1|exact fB)
          · try simp only[cp,dF]at c
            refine Ok.bv λsc cx=>Ok.it (λc=>?_) (λc=>?_)
            · try simp only[cx,dT]at c
              refine Ok.ob (dR fA fA) λsi kz fs=>Ok.ob (iL fs.1) λsj l0 cy=>?_
              exact Ok.sm (by first|exact cy|exact cy.1|exact fB)
            · try simp only[cx,dF]at c
              refine Ok.bv λsk da=>Ok.it (λc=>?_) (λc=>?_)
              · try simp only[da,dT]at c
                refine Ok.ob (dR fA fA) λsl l2 dd=>Ok.ob (ns dd.1 dd.2) λsn l3 dj=>?_
                exact Ok.sm (by first|exact dj|exact dj.1|exact fB)
              · try simp only[da,dF]at c
                refine Ok.bv λsp dn=>Ok.it (λc=>?_) (λc=>?_)
                · try simp only[dn,dT]at c
                  have h2:2<=f.length:=by rw[c]at E;exact Nat.le_trans (by decide) E
                  refine Ok.cF fC λk1=>Ok.bv λsv gb=>?_
                  have gf:=di u gb oM
                  refine Ok.ob (cP gf) λsF mb ml=>Ok.cF fC λk2=>Ok.bv λsT gg=>?_
                  have gl:=di u gg oM
                  refine Ok.ob (nj gl.vD) λtc mm dv=>?_
                  exact Ok.sm (by first|exact dv|exact dv.1|exact fB)
                · try simp only[dn,dF]at c
                  refine Ok.bv λtk dz=>Ok.it (λc=>?_) (λc=>?_)
                  · try simp only[dz,dT]at c
                    have h2:2<=f.length:=by rw[c]at E;exact Nat.le_trans (by decide) E
                    refine Ok.cF fC λk3=>Ok.bv λtl gm=>?_
                    have h0:=di u gm oM
                    refine Ok.ob (cP h0) λtq mn mo=>Ok.cF fC λk4=>Ok.bv λtt h4=>?_
                    have e0:=di u h4 oM
                    refine Ok.ob (oW e0.vD e0.rt) λu0 mu e1=>?_
                    exact Ok.sm (by first|exact e1|exact e1.1|exact fB)
                  · try simp only[dz,dF]at c
                    refine Ok.bv λu1 e2=>Ok.it (λc=>?_) (λc=>?_)
                    · try simp only[e2,dT]at c
                      have h2:2<=f.length:=by rw[c]at E;exact Nat.le_trans (by decide) E
                      refine Ok.cF fC λk5=>Ok.bv λu2 h5=>?_
                      have e3:=di u h5 oM
                      refine Ok.cF fC λk6=>Ok.bv λu3 h6=>?_
                      have e4:=di u h6 oM
                      refine Ok.ob (lJ e3.vD e3.rt e4.vD e4.rt) λu4 mv e5=>?_
                      exact Ok.sm (by first|exact e5|exact e5.1|exact fB)
                    · try simp only[e2,dF]at c
                      refine Ok.bv λu5 e6=>Ok.it (λc=>?_) (λc=>?_)
                      · try simp only[e6,dT]at c
                        have h2:2<=f.length:=by rw[c]at E;exact Nat.le_trans (by decide) E
                        refine Ok.cF fC λk7=>Ok.bv λu9 h7=>?_
                        have h8:=di u h7 oM
                        refine Ok.ob (cP h8) λua n0 n2=>Ok.cF fC λk8=>Ok.bv λuc h9=>?_
                        have ha:=di u h9 oM
                        refine Ok.ob (oT ha.vD) λum n5 e7=>?_
                        exact Ok.sm (by first|exact e7|exact e7.1|exact fB)
                      · try simp only[e6,dF]at c
                        refine Ok.bv λv7 e8=>Ok.it (λc=>?_) (λc=>?_)
                        · try simp only[e8,dT]at c
                          have h1:1<=f.length:=by rw[c]at E;exact Nat.le_trans (by decide) E
                          refine Ok.cF fC λk9=>Ok.bv λht hb=>?_
                          have na:=di u hb oM
                          refine Ok.cF fC λv8=>Ok.bv λvb hc=>?_
                          have nb:=di u hc oM
                          refine Ok.bv λhv nk=>?_
                          skip
                          refine Ok.cF fC λvc=>Ok.bv λvk X=>?_
                          try have nl:=dk (ht.l.length:Int) hv
                          have nn:=(au X).1
                          try replace X:=(au X).2 oM
                          refine Ok.ob (eL) λvn nx hf=>Ok.ob (aY (λ_=>hf)) λvs o0 e9=>?_
                          exact Ok.sm (by first|exact e9|exact e9.1|exact fB)
                        · try simp only[e8,dF]at c
                          refine Ok.bv λw2 ea=>Ok.it (λc=>?_) (λc=>?_)
                          · try simp only[ea,dT]at c
                            have h1:1<=f.length:=by rw[c]at E;exact Nat.le_trans (by decide) E
                            refine Ok.cF fC λw3=>Ok.bv λw4 hg=>?_
                            have o2:=di u hg oM
                            refine Ok.ob (eL) λw5 o5 hj=>Ok.ob (aY (λ_=>hj)) λw6 o9 eb=>?_
                            exact Ok.sm (by first|exact eb|exact eb.1|exact fB)
                          · try simp only[ea,dF]at c
                            refine Ok.bv λod Y=>Ok.it (λc=>?_) (λc=>?_)
                            · try simp only[Y,dT]at c
                              refine Ok.ob (av fA) λoh hy a1=>?_
                              exact Ok.sm (by first|exact a1|exact a1.1|exact fB)
                            · try simp only[Y,dF]at c
                              have h1:1<=f.length:=hK.resolve_left c
                              refine Ok.bv λp0 a6=>Ok.it (λc=>?_) (λc=>?_)
                              · try simp only[a6,dT]at c
                                have h3:3<=f.length:=by rw[c]at E;exact Nat.le_trans (by decide) E
                                refine Ok.cF fC λw7=>Ok.bv λp1 a7=>?_
                                have ec:=ko f (1:Int) (f.length:Int) oM
                                rw[<-a7]at ec
                                have a8:=lZ u (1:Int) (f.length:Int)
                                rw[<-a7]at a8
                                refine Ok.ob (gz oM a8) λp2 hA F=>Ok.bv λp6 ad=>Ok.it (λc=>?_) (λc=>?_)
                                · try simp only[ad,dT]at c
                                  exact Ok.sm (by first|exact F.1|exact F.2|exact fB)
                                · try simp only[ad,dF]at c
                                  have hq:=F.2 c
                                  refine Ok.cF fC λw8=>Ok.bv λp7 ed=>?_
                                  have ef:=di u ed oM
                                  refine Ok.cF fC λw9=>Ok.bv λhn hB=>Ok.bv λp8 G=>?_
                                  try have hD:=dk hn 1000000
                                  have hE:=(au G).1
                                  try replace G:=(au G).2 oM
                                  refine Ok.cF fC λwb=>Ok.bv λho hF=>Ok.bv λp9 H=>?_
                                  try have hG:=dk ho 1000000
                                  have hI:=(au H).1
                                  try replace H:=(au H).2 oM
                                  refine Ok.cF fC λx2=>Ok.bv λpa ei=>?_
                                  have af:=di u ei oM
                                  refine Ok.ob (oU af.vD af.rt ef.cols oM oM) λpb hJ ao=>?_
                                  exact Ok.sm (by first|exact ao|exact ao.1|exact fB)
                              · try simp only[a6,dF]at c
                                refine Ok.bv λpe b0=>Ok.it (λc=>?_) (λc=>?_)
                                · try simp only[b0,dT]at c
                                  have h3:3<=f.length:=by rw[c]at E;exact Nat.le_trans (by decide) E
                                  refine Ok.cF fC λx3=>Ok.bv λq0 b1=>?_
                                  have ej:=ko f (2:Int) (f.length:Int) oM
                                  rw[<-b1]at ej
                                  have b2:=lZ u (2:Int) (f.length:Int)
                                  rw[<-b1]at b2
                                  refine Ok.ob (gz oM b2) λq3 hL J=>Ok.bv λq4 b3=>Ok.it (λc=>?_) (λc=>?_)
                                  · try simp only[b3,dT]at c
                                    exact Ok.sm (by first|exact J.1|exact J.2|exact fB)
                                  · try simp only[b3,dF]at c
                                    have hq:=J.2 c
                                    refine Ok.cF fC λx4=>Ok.bv λq5 el=>?_
                                    have eo:=di u el oM
                                    refine Ok.ob (cP eo) λq6 hP hQ=>Ok.cF fC λy0=>Ok.bv λq7 ep=>?_
                                    have er:=di u ep oM
                                    refine Ok.cF fC λy2=>Ok.bv λhr hR=>Ok.bv λqa W=>?_
                                    try have hS:=dk hr 1000000
                                    have hT:=(au W).1
                                    try replace W:=(au W).2 oM
                                    refine Ok.cF fC λy5=>Ok.bv λqb et=>?_
                                    have b4:=di u et oM
                                    refine Ok.ob (nv b4.vD b4.rt (by have:=er.cols;omega) oM) λqc hU b5=>?_
                                    exact Ok.sm (by first|exact b5|exact b5.1|exact fB)
                                · try simp only[b0,dF]at c
                                  refine Ok.cF fC λy7=>Ok.bv λql eu=>?_
                                  have ew:=di u eu oM
                                  refine Ok.ob (cP ew) λqm hV ey=>Ok.ob (pP ey) λr4 hW b6=>?_
                                  exact Ok.sm (by first|exact b6|exact b6.1|exact fB)
 clear ez
 refine Ok.bv λr5 b7=>Ok.it (λc=>?_) (λc=>?_)
 · try simp only[b7,dT]at c
   exact eF _ fA
 · try simp only[b7,dF]at c
   refine Ok.bv λr6 hX=>?_
   exact eF _ fA
theorem kT{x0:Int}{H:List (Arg)}(h6:6<=x0/\x0<=54) (hl:H.length<=9) (hx:∀a∈H,jR a):Ok (iD x0 H) (Rt):=by
 obtain⟨nm,b,gl,ef,f⟩:=uJ h6 hl
 unfold iD
 refine Ok.ob (Ok.of (P:=λr=>r=nm) gl O) λy2 hJ gm=>Ok.ob (Ok.of (P:=λr=>r=b) ef O) λy4 hK h0=>Ok.bv λz5 ei=>Ok.it (λc=>?_) (λc=>?_)
 · try simp only[ei,BL]at c
   refine Ok.ob (av fA) λy7 hL ej=>?_
   exact Ok.sm (by first|exact ej|exact ej.1|exact fB)
 · try simp only[ei,BL]at c
   have f:=f (by rw[<-h0];exact c)
   rw[<-gm]at f
   refine Ok.bv λh2 b3=>?_
   have u:∀ea:Bool,(ea=true->1<=H.length/\H.length<=2)->Ok (h2 ea) (Rt):=by
    intro ea el
    rw[b3]
    refine Ok.it (λc=>?_) (λc=>?_)
    · have ha:=el c
      refine Ok.ob (gz hl hx) λhN h5 J=>Ok.bv λhP b4=>Ok.it (λc=>?_) (λc=>?_)
      · try simp only[b4,dT]at c
        exact Ok.sm (by first|exact J.1|exact J.2|exact fB)
      · try simp only[b4,dF]at c
        have hq:=J.2 c
        have F:=hq.2
        refine Ok.bv λhQ b5=>Ok.it (λc=>?_) (λc=>?_)
        · try simp only[b5,dT]at c
          refine Ok.cF fC λk1=>Ok.bv λhR eo=>?_
          have ep:=di F eo oM
          refine Ok.ob (qJ ep) λhS h7 b6=>?_
          exact Ok.sm (by first|exact b6|exact b6.1|exact fB)
        · try simp only[b5,dF]at c
          refine Ok.cF fC λk2=>Ok.bv λhT er=>?_
          have et:=di F er oM
          refine Ok.cF fC λk3=>Ok.bv λhU eu=>?_
          have ew:=di F eu oM
          refine Ok.ob (qK et ew) λhV h8 b7=>?_
          exact Ok.sm (by first|exact b7|exact b7.1|exact fB)
    · refine Ok.bv λh3 bb=>?_
      have E:∀eb:Bool,(eb=true->1<=H.length)->Ok (h3 eb) (Rt):=by
       intro eb ey
       rw[bb]
       refine Ok.it (λc=>?_) (λc=>?_)
       · have ha:=ey c
         refine Ok.ob (lh hl hx) λhW h9 W=>Ok.bv λhX bk=>Ok.it (λc=>?_) (λc=>?_)
         · try simp only[bk,dT]at c
           exact Ok.sm (by first|exact W.1|exact W.2|exact fB)
         · try simp only[bk,dF]at c
           have hq:=W.2 c
           have F:=hq.2
           refine Ok.bv λhY bq=>Ok.bv λhZ bs=>Ok.bv λih c6=>Ok.it (λc=>?_) (λc=>?_)
           · try simp only[c6,bs,bq,BL]at c
             refine Ok.cF fC λk4=>Ok.bv λjo ez=>?_
             have eF:=di F ez oM
             refine Ok.ob (qM eF) λk8 hb c7=>?_
             exact Ok.sm (by first|exact c7|exact c7.1|exact fB)
           · try simp only[c6,bs,bq,BL]at c
             refine Ok.ob (qt oM hq.2) λk9 hc c8=>?_
             exact Ok.sm (by first|exact c8|exact c8.1|exact fB)
       · refine Ok.bv λh4 cc=>?_
         have G:∀ec:Bool,(ec=true->2<=H.length/\(y2=[82,69,80,84]->H.length=2))->Ok (h4 ec) (Rt):=by
          intro ec eJ
          rw[cc]
          refine Ok.it (λc=>?_) (λc=>?_)
          · have ha:=eJ c
            refine Ok.cF fC λk5=>Ok.bv λkc ch=>?_
            have eZ:=ko H (0:Int) (1:Int) oM
            rw[<-ch]at eZ
            have cp:=lZ hx (0:Int) (1:Int)
            rw[<-ch]at cp
            refine Ok.ob (lh oM cp) λki hf X=>Ok.bv λkk ct=>Ok.it (λc=>?_) (λc=>?_)
            · try simp only[ct,dT]at c
              exact Ok.sm (by first|exact X.1|exact X.2|exact fB)
            · try simp only[ct,dF]at c
              have hq:=X.2 c
              have F:=hq.2
              refine Ok.cF fC λk6=>Ok.bv λkx cx=>?_
              have ff:=ko H (1:Int) (H.length:Int) oM
              rw[<-cx]at ff
              have cy:=lZ hx (1:Int) (H.length:Int)
              rw[<-cx]at cy
              refine Ok.ob (gz oM cy) λky hg Y=>Ok.bv λkz da=>Ok.it (λc=>?_) (λc=>?_)
              · try simp only[da,dT]at c
                exact Ok.sm (by first|exact Y.1|exact Y.2|exact fB)
              · try simp only[da,dF]at c
                have hp:=Y.2 c
                refine Ok.cF fC λk7=>Ok.bv λl0 fs=>?_
                have gb:=di F fs oM
                refine Ok.ob (p' gb oM hp.2 (λg=>by have:=ha.2 g;omega)) λl2 hj dd=>?_
                exact Ok.sm (by first|exact dd|exact dd.1|exact fB)
          · refine Ok.ob (pz hl hx f.1 f.2.2) λl3 hn dj=>?_
            exact Ok.sm (by first|exact dj|exact dj.1|exact fB)
         clear cc
         refine Ok.bv λmb dn=>Ok.it (λc=>?_) (λc=>?_)
         · try simp only[dn,dT]at c
           exact G _ (by intro _;have a:=f.1;refine⟨by rw[c]at a;exact Nat.le_trans (by decide) a,λh=>?_⟩;have a:=f.1;have b:=f.2.1;rw[h]at a b;exact Nat.le_antisymm (Nat.le_trans b (by decide)) (Nat.le_trans (by decide) a))
         · try simp only[dn,dF]at c
           refine Ok.bv λml dv=>Ok.it (λc=>?_) (λc=>?_)
           · try simp only[dv,dT]at c
             exact G _ (by intro _;have a:=f.1;refine⟨by rw[c]at a;exact Nat.le_trans (by decide) a,λh=>?_⟩;have a:=f.1;have b:=f.2.1;rw[h]at a b;exact Nat.le_antisymm (Nat.le_trans b (by decide)) (Nat.le_trans (by decide) a))
           · try simp only[dv,dF]at c
             refine Ok.bv λmm dz=>Ok.it (λc=>?_) (λc=>?_)
             · try simp only[dz,dT]at c
               exact G _ (by intro _;have a:=f.1;refine⟨by rw[c]at a;exact Nat.le_trans (by decide) a,λh=>?_⟩;have a:=f.1;have b:=f.2.1;rw[h]at a b;exact Nat.le_antisymm (Nat.le_trans b (by decide)) (Nat.le_trans (by decide) a))
             · try simp only[dz,dF]at c
               refine Ok.bv λmn gf=>?_
               exact G _ (by intro g;rw[gf,dT]at g;have a:=f.1;refine⟨by rw[g]at a;exact Nat.le_trans (by decide) a,λh=>?_⟩;have a:=f.1;have b:=f.2.1;rw[h]at a b;exact Nat.le_antisymm (Nat.le_trans b (by decide)) (Nat.le_trans (by decide) a))
      clear bb
      refine Ok.bv λmo e0=>Ok.it (λc=>?_) (λc=>?_)
      · try simp only[e0,dT]at c
        exact E _ (by intro _;have a:=f.1;have b:=f.2.1;rw[c]at a;exact Nat.le_trans (by decide) a)
      · try simp only[e0,dF]at c
        refine Ok.bv λmu e1=>Ok.it (λc=>?_) (λc=>?_)
        · try simp only[e1,dT]at c
          exact E _ (by intro _;have a:=f.1;have b:=f.2.1;rw[c]at a;exact Nat.le_trans (by decide) a)
        · try simp only[e1,dF]at c
          refine Ok.bv λmv e2=>Ok.it (λc=>?_) (λc=>?_)
          · try simp only[e2,dT]at c
            exact E _ (by intro _;have a:=f.1;have b:=f.2.1;rw[c]at a;exact Nat.le_trans (by decide) a)
          · try simp only[e2,dF]at c
            refine Ok.bv λn0 e3=>Ok.it (λc=>?_) (λc=>?_)
            · try simp only[e3,dT]at c
              exact E _ (by intro _;have a:=f.1;have b:=f.2.1;rw[c]at a;exact Nat.le_trans (by decide) a)
            · try simp only[e3,dF]at c
              refine Ok.bv λn2 e4=>Ok.it (λc=>?_) (λc=>?_)
              · try simp only[e4,dT]at c
                exact E _ (by intro _;have a:=f.1;have b:=f.2.1;rw[c]at a;exact Nat.le_trans (by decide) a)
              · try simp only[e4,dF]at c
                refine Ok.bv λn5 e5=>Ok.it (λc=>?_) (λc=>?_)
                · try simp only[e5,dT]at c
                  exact E _ (by intro _;have a:=f.1;have b:=f.2.1;rw[c]at a;exact Nat.le_trans (by decide) a)
                · try simp only[e5,dF]at c
                  refine Ok.bv λna e6=>Ok.it (λc=>?_) (λc=>?_)
                  · try simp only[e6,dT]at c
                    exact E _ (by intro _;have a:=f.1;have b:=f.2.1;rw[c]at a;exact Nat.le_trans (by decide) a)
                  · try simp only[e6,dF]at c
                    refine Ok.bv λnb e7=>Ok.it (λc=>?_) (λc=>?_)
                    · try simp only[e7,dT]at c
                      exact E _ (by intro _;have a:=f.1;have b:=f.2.1;rw[c]at a;exact Nat.le_trans (by decide) a)
                    · try simp only[e7,dF]at c
                      refine Ok.bv λnk gg=>?_
                      exact E _ (by intro g;rw[gg,dT]at g;have a:=f.1;have b:=f.2.1;rw[g]at a;exact Nat.le_trans (by decide) a)
   clear b3
   refine Ok.bv λnl e8=>Ok.it (λc=>?_) (λc=>?_)
   · try simp only[e8,dT]at c
     exact u _ (by intro _;have a:=f.1;have b:=f.2.1;rw[c]at a b;exact⟨Nat.le_trans (by decide) a,Nat.le_trans b (by decide)⟩)
   · try simp only[e8,dF]at c
     refine Ok.bv λnn e9=>Ok.it (λc=>?_) (λc=>?_)
     · try simp only[e9,dT]at c
       exact u _ (by intro _;have a:=f.1;have b:=f.2.1;rw[c]at a b;exact⟨Nat.le_trans (by decide) a,Nat.le_trans b (by decide)⟩)
     · try simp only[e9,dF]at c
       refine Ok.bv λho a1=>Ok.it (λc=>?_) (λc=>?_)
       · try simp only[a1,dT]at c
         exact u _ (by intro _;have a:=f.1;have b:=f.2.1;rw[c]at a b;exact⟨Nat.le_trans (by decide) a,Nat.le_trans b (by decide)⟩)
       · try simp only[a1,dF]at c
         refine Ok.bv λhr a6=>Ok.it (λc=>?_) (λc=>?_)
         · try simp only[a6,dT]at c
           exact u _ (by intro _;have a:=f.1;have b:=f.2.1;rw[c]at a b;exact⟨Nat.le_trans (by decide) a,Nat.le_trans b (by decide)⟩)
         · try simp only[a6,dF]at c
           refine Ok.bv λht a7=>Ok.it (λc=>?_) (λc=>?_)
           · try simp only[a7,dT]at c
             exact u _ (by intro _;have a:=f.1;have b:=f.2.1;rw[c]at a b;exact⟨Nat.le_trans (by decide) a,Nat.le_trans b (by decide)⟩)
           · try simp only[a7,dF]at c
             refine Ok.bv λhv a8=>Ok.it (λc=>?_) (λc=>?_)
             · try simp only[a8,dT]at c
               exact u _ (by intro _;have a:=f.1;have b:=f.2.1;rw[c]at a b;exact⟨Nat.le_trans (by decide) a,Nat.le_trans b (by decide)⟩)
             · try simp only[a8,dF]at c
               refine Ok.bv λhy ad=>Ok.it (λc=>?_) (λc=>?_)
               · try simp only[ad,dT]at c
                 exact u _ (by intro _;have a:=f.1;have b:=f.2.1;rw[c]at a b;exact⟨Nat.le_trans (by decide) a,Nat.le_trans b (by decide)⟩)
               · try simp only[ad,dF]at c
                 refine Ok.bv λhA af=>Ok.it (λc=>?_) (λc=>?_)
                 · try simp only[af,dT]at c
                   exact u _ (by intro _;have a:=f.1;have b:=f.2.1;rw[c]at a b;exact⟨Nat.le_trans (by decide) a,Nat.le_trans b (by decide)⟩)
                 · try simp only[af,dF]at c
                   refine Ok.bv λhB ao=>Ok.it (λc=>?_) (λc=>?_)
                   · try simp only[ao,dT]at c
                     exact u _ (by intro _;have a:=f.1;have b:=f.2.1;rw[c]at a b;exact⟨Nat.le_trans (by decide) a,Nat.le_trans b (by decide)⟩)
                   · try simp only[ao,dF]at c
                     refine Ok.bv λhD b0=>Ok.it (λc=>?_) (λc=>?_)
                     · try simp only[b0,dT]at c
                       exact u _ (by intro _;have a:=f.1;have b:=f.2.1;rw[c]at a b;exact⟨Nat.le_trans (by decide) a,Nat.le_trans b (by decide)⟩)
                     · try simp only[b0,dF]at c
                       refine Ok.bv λhE b1=>Ok.it (λc=>?_) (λc=>?_)
                       · try simp only[b1,dT]at c
                         exact u _ (by intro _;have a:=f.1;have b:=f.2.1;rw[c]at a b;exact⟨Nat.le_trans (by decide) a,Nat.le_trans b (by decide)⟩)
                       · try simp only[b1,dF]at c
                         refine Ok.bv λhG b2=>Ok.it (λc=>?_) (λc=>?_)
                         · try simp only[b2,dT]at c
                           exact u _ (by intro _;have a:=f.1;have b:=f.2.1;rw[c]at a b;exact⟨Nat.le_trans (by decide) a,Nat.le_trans b (by decide)⟩)
                         · try simp only[b2,dF]at c
                           refine Ok.bv λhI ed=>?_
                           exact u _ (by intro g;rw[ed,dT]at g;have a:=f.1;have b:=f.2.1;rw[g]at a b;exact⟨Nat.le_trans (by decide) a,Nat.le_trans b (by decide)⟩)
end Go.Sp
end
section
namespace Go.Sp
open Go.Stp Go.ValP
theorem iK{op:Int}{v:V}(h:Rt v):Ok (dr op v) Rt:=by
 unfold dr
 refine Ok.ob (cX h) λy _ hy=>Ok.bv λz _=>Ok.it (λ_=>Ok.sm hy.1) λ_=>?_
 have u:=hy.1.n
 refine Ok.bv λz _=>Ok.it (λ_=>?_) λ_=>?_
 · refine Ok.bv λz f=>?_
   have:=(au f).2 oM
   exact Ok.ob (bX oM) λy _ hy=>Ok.sm hy.1
 ·exact Ok.ob (lB oM oM) λy _ hy=>Ok.ob (aY λ_=>hy) λy _ hy=>Ok.sm hy.1
theorem gX{op:Int}{x y:V}(X:1<=op/\op<=11) (E:Rt x) (hy:Rt y) (G:x.k≠4) (H:y.k≠4):Ok (eH op x y) Rt:=by
 unfold eH
 refine Ok.bv λY J=>Ok.it (λc0=>?_) λc0=>?_
 · rw[J,dT]at c0
   refine Ok.ob (ni x y) λy0 _ _=>Ok.bv λ_ _=>Ok.bv λ_ _=>Ok.bv λ_ _=>Ok.bv λ_ _=>Ok.bv λ_ _=>Ok.bv λ_ _=>Ok.bv λW F=>?_
   have:=(au F).2 oM
   exact Ok.ck oM (Ok.bv λ_ _=>Ok.ob ba λy _ hy=>Ok.sm hy)
 refine Ok.bv λW F=>Ok.it (λc1=>?_) λc1=>?_
 ·refine Ok.ob (j5 E G) λa _ f=>Ok.ob (j5 hy H) λb _ u=>Ok.ck oM (Ok.bv λ_ _=>Ok.ob bM λy _ hy=>Ok.sm hy.1)
 refine Ok.ob (cX E) λa _ f=>Ok.ob (cX hy) λb _ u=>Ok.bv λ_ _=>Ok.it (λ_=>Ok.sm f.1) λ_=>Ok.bv λ_ _=>Ok.it (λ_=>Ok.sm u.1) λ_=>?_
 have na:=f.1.n
 have nb:=u.1.n
 refine Ok.bv λ_ _=>Ok.it (λ_=>?_) λ_=>?_
 ·exact Ok.ob (lq _ _) λy _ hy=>Ok.ob (aY hy) λy _ hy=>Ok.sm hy.1
 refine Ok.bv λ_ _=>Ok.it (λ_=>?_) λ_=>?_
 ·exact Ok.ob (oD _ _) λy _ hy=>Ok.ob (aY hy) λy _ hy=>Ok.sm hy.1
 refine Ok.bv λ_ _=>Ok.it (λ_=>?_) λ_=>?_
 ·exact Ok.ob (lH oM oM) λy _ hy=>Ok.ob (aY λ_=>hy) λy _ hy=>Ok.sm hy.1
 refine Ok.bv λ_ _=>Ok.it (λ_=>?_) λ_=>?_
 ·exact Ok.ob (av oM) λy _ hy=>Ok.sm hy.1
 exact Ok.ob (lB oM oM) λy _ hy=>Ok.ob (aY λ_=>hy) λy _ hy=>Ok.sm hy.1
theorem kP{op:Int}(E:6<=op/\op<=54):Ok (fk op) λ_=>True:=by
 obtain⟨nm,b,F,_⟩:=uJ (n:=0) E oM
 unfold fk
 rw[F]
 refine Ok.os λy _=>Ok.bv λJ f=>?_
 have u:∀s,Ok (J s) λ_=>True:=λs=>by rw[f];exact Ok.it (λ_=>Ok.sm trivial) λ_=>Ok.sm trivial
 clear f
 iterate 9 refine Ok.bv λz _=>Ok.it (λ_=>u z) λ_=>?_
 exact Ok.bv λz _=>u z
def okP(p:List V):Prop:=p.length=128/\∀v∈p,Rt v
theorem DO{p:List V}(hp:okP p) (c:C):Ok (bT p c) Rt:=by
 unfold bT
 refine Ok.bv λz1 H=>Ok.bv λz2 J=>Ok.bv λz3 W=>Ok.bv λz4 X=>Ok.bv λz5 Y=>Ok.bv λz6 e6=>Ok.bv λz7 e7=>Ok.bv λz8 e8=>Ok.bv λz9 e9=>Ok.bv λa1 f=>Ok.bv λa6 u=>Ok.it (λ_=>Ok.sm DA) λh=>?_
 rw[u,f,e9,e8,e7,e6,Y,X,W,J,H]at h
 simp at h
 refine Ok.bv λa7 E=>?_
 have:=(au E).2 oM
 refine Ok.bv λa8 F=>?_
 have:=(au F).2 oM
 refine Ok.ck oM (Ok.ck oM (Ok.bv λad G=>Ok.sm ?_))
 exact di hp.2 G (by rw[hp.1];omega)
abbrev ks(m:List (C × Bool)):List C:=m.map (·.1)
theorem o8(m:List (C × Bool)) (k:C) (v:Bool):(ks (ld m k v)=ks m/\k∈ks m)\/ks (ld m k v)=ks m++[k]:=by
 unfold ld
 cases h:kAt k m 0 with
 |none=>right;simp
 |some q=>
  left
  obtain⟨i,b⟩:=q
  have u:=(m9 h).2
  simp only[Nat.sub_zero]at u
  have f:(ks m)[i]?=some k:=by rw[List.getElem?_map,u];rfl
  refine⟨?_,List.mem_of_getElem? f⟩
  show ks (m.set i (k,v))=ks m
  rw[ks,List.map_set]
  apply List.ext_getElem?
  intro j
  rw[List.getElem?_set]
  by_cases e:i=j
  · subst e
    have hi:i<(m.map (·.1)).length:=by
     rw[List.getElem?_eq_some_iff]at f
     exact f.1
    rw[if_pos rfl,if_pos hi]
    exact f.symm
  ·rw[if_neg e]
theorem Bd(m:List (C × Bool)) (k:C) (v:Bool):k∈ks (ld m k v):=by
 rcases o8 m k v with⟨h,g⟩|h
 ·rw[h];exact g
 ·rw[h];simp
structure Gr (m:List (C × Bool)) (B:Nat) (m':List (C × Bool)):Prop where
 len:m'.length<=m.length+B
 sub:∀c∈ks m,c∈ks m'
theorem Gr.refl(m:List (C × Bool)) (B:Nat):Gr m B m:=⟨oM,λ_ h=>h⟩
theorem Gr.trans{m m1 m2:List (C × Bool)}{B f B2:Nat}(h:Gr m B m1) (k:Gr m1 f m2) (e:B+f<=B2):Gr m B2 m2:=⟨by have:=h.len;have:=k.len;omega,λc u=>k.sub c (h.sub c u)⟩
theorem Gr.le{m m1:List (C × Bool)}{B B2:Nat}(h:Gr m B m1) (e:B<=B2):Gr m B2 m1:=⟨by have:=h.len;omega,h.sub⟩
theorem Gr.put(m:List (C × Bool)) (k:C) (v:Bool):Gr m 1 (ld m k v):=by
 refine⟨?_,λc f=>?_⟩
 ·rcases o8 m k v with⟨h,_⟩|h<;>have:=congrArg List.length h<;>simp at this<;>omega
 · rcases o8 m k v with⟨h,_⟩|h<;>rw[h]
   ·exact f
   ·exact List.mem_append_left _ f
def Org(R:Rn) (m:List (C × Bool)) (g:Gt):Prop:=g.v.k=4->g.c=R.c\/(g.c∈ks m/\bT R.p g.c=some g.v)
theorem Org.mono{R:Rn}{m m':List (C × Bool)}{g:Gt}(h:Org R m g) (k:∀c∈ks m,c∈ks m'):Org R m' g:=λe=>(h e).imp id λ⟨a,b⟩=>⟨k _ a,b⟩
structure la (R:Rn) (m:List (C × Bool)) (B:Nat) (r:Gt × List (C × Bool)):Prop where
 rt:Rt r.1.v
 gr:Gr m B r.2
 org:Org R r.2 r.1
theorem la.over{R:Rn}{m m1:List (C × Bool)}{B f B2:Nat}{r:Gt × List (C × Bool)}(h:Gr m B m1) (k:la R m1 f r) (e:B+f<=B2):la R m B2 r:=⟨k.rt,h.trans k.gr e,k.org⟩
theorem la.le{R:Rn}{m:List (C × Bool)}{B B2:Nat}{r:Gt × List (C × Bool)}(k:la R m B r) (e:B<=B2):la R m B2 r:=⟨k.rt,k.gr.le e,k.org⟩
theorem gq{R:Rn}{v:V}:Ok (aK R v) λg=>g=⟨v,R.c⟩:=Ok.sm rfl
theorem la.made{R:Rn}{m m':List (C × Bool)}{B:Nat}{v:V}{g:Gt}(f:Rt v) (h:Gr m B m') (e:g=⟨v,R.c⟩):la R m B (g,m'):=by
 subst e
 exact⟨f,h,λ_=>.inl O⟩
theorem o_{R:Rn}(hp:okP R.p) (c:C) (m:List (C × Bool)):Ok (cU R c m) (la R m 1):=by
 unfold cU
 refine Ok.bv λm' f=>?_
 have E:Ok (bR R.p c) λr=>Rt r.1/\(r.1.k=4->r.2=c/\bT R.p c=some r.1):=by
  unfold bR
  refine Ok.ob (DO hp c) λy u hy=>Ok.bv λz F=>Ok.it (λ_=>Ok.sm ⟨hy,λ_=>⟨O,u⟩⟩) λh=>Ok.sm ⟨hy,λg=>?_⟩
  rw[F]at h
  simp at h
  exact absurd g h
 refine Ok.ob E λy u hy=>Ok.sm ⟨hy.1,by rw[f];exact Gr.put _ _ _,λg=>.inr ?_⟩
 obtain⟨G,H⟩:=hy.2 g
 dsimp only at g⊢
 rw[G,f]
 exact⟨Bd _ _ _,H⟩
structure Box (a b:C):Prop where
 c0:0<=a.c
 c1:a.c<=b.c
 c2:b.c<=a.c+1
 c3:b.c<=100
 r0:0<=a.r
 r1:a.r<=b.r
 r2:b.r<=a.r+2
 r3:b.r<=100
structure Cn (n:Nd):Prop where
 one:n.k=2->Box n.a.c n.a.c
 two:n.k=3->Box n.a.c n.b.c
theorem tO{a b:C}(h:Box a b):Ok (fo a b) λr=>r.2.2=true->r.1=a/\r.2.1=⟨a.s,b.c,b.r⟩:=by
 have:=h.c1
 have:=h.r1
 unfold fo
 refine Ok.bv λz G=>Ok.it (λ_=>Ok.sm λg=>absurd g Bool.false_ne_true) λ_=>Ok.bv λH f=>Ok.bv λJ u=>Ok.bv λW E=>Ok.bv λX F=>Ok.sm λ_=>?_
 rw[Int.min_eq_left oM]at f u
 rw[Int.max_eq_right oM]at E F
 rw[f,u,E,F]
 exact⟨O,O⟩
theorem Bm(p:List V) (nm:List UInt8):Ok (ci p nm) λr=>Cn r.1:=by
 unfold ci
 refine Ok.bv λ_ _=>Ok.it (λ_=>Ok.sm ⟨λ_=>?_,λh=>?_⟩) λ_=>Ok.bv λ_ _=>Ok.it (λ_=>Ok.sm ⟨λh=>?_,λ_=>?_⟩) λ_=>Ok.sm ⟨λh=>?_,λh=>?_⟩
 ·constructor<;>simp
 ·simp at h
 ·simp at h
 ·constructor<;>simp
 ·simp at h
 ·simp at h
theorem jJ{p:List V}{n:Nd}(h:Cn n):Ok (eval_Area p n) λr=>r.2.2=true->Box r.1 r.2.1:=by
 unfold eval_Area
 refine Ok.bv λG H=>?_
 have E:∀x:Nd,Cn x->Ok (G (x.k,x.op,x.v.k,x.v.n,x.v.s,x.a.c.s,x.a.c.c,x.a.c.r,x.a.ac,x.a.ar,x.b.c.s,x.b.c.c,x.b.c.r,x.b.ac,x.b.ar,x.nm,x.l)) λr=>r.2.2=true->Box r.1 r.2.1:=by
  intro x F
  rw[H]
  refine Ok.bv λz u=>Ok.it (λc=>?_) λ_=>?_
  · rw[u,dT]at c
    have f:=F.two c
    refine Ok.ob (tO (a:=⟨x.a.c.s,x.a.c.c,x.a.c.r⟩) (b:=⟨x.b.c.s,x.b.c.c,x.b.c.r⟩) f) λy J hy=>Ok.sm λg=>?_
    obtain⟨W,X⟩:=hy g
    dsimp only
    rw[W,X]
    exact⟨f.c0,f.c1,f.c2,f.c3,f.r0,f.r1,f.r2,f.r3⟩
  · refine Ok.bv λz u=>Ok.it (λc=>?_) λ_=>Ok.sm λg=>absurd g Bool.false_ne_true
    rw[u,dT]at c
    exact Ok.sm λ_=>F.one c
 refine Ok.bv λz u=>Ok.it (λc=>?_) λ_=>E n h
 refine Ok.ob (Bm p n.nm) λy J hy=>Ok.it (λ_=>E y.1 hy) λ_=>E n h
theorem uj{f:Nat->List C}(h:∀i,(f i).length<=2):∀k:Nat,((List.range k).flatMap f).length<=2*k
 |0=>by simp
 |k+1=>by
  rw[List.range_succ,List.flatMap_append,List.length_append]
  have:=uj h k
  have:=h k
  simp only[List.flatMap_cons,List.flatMap_nil,List.append_nil]
  omega
theorem cells_ok{a b:C}(h:Box a b):Ok (hM a b) λl=>l.length<=6:=by
 have:=h.c0;have:=h.c1;have:=h.c2;have:=h.c3;have:=h.r0;have:=h.r1;have:=h.r2;have:=h.r3
 unfold hM
 refine Ok.ob (tO h) λo H G=>?_
 by_cases u:o.2.2=true
 · rw[if_pos u]
   obtain⟨E,F⟩:=G u
   refine Ok.ck (by rw[E,F];dsimp only;omega) (Ok.sm ?_)
   rw[E,F]
   unfold oq
   have:=uj (f:=ub a ⟨a.s,b.c,b.r⟩) (λi=>by simp only[ub,List.length_map,List.length_range];omega) (b.r-a.r+1).toNat
   dsimp only
   omega
 · rw[if_neg u]
   exact Ok.sm (by simp)
variable {rec:Rn->Nd->(List (C × Bool))->Option ((Gt) × List (C × Bool))}{R:Rn}{n:Nd}{m:List (C × Bool)}{B:Nat}
theorem ue{x:Nd}(h:Ok (rec R x m) (la R m B)):Ok (aV rec R x m) (la R m B):=by
 unfold aV
 refine Ok.ob h λy E hy=>Ok.bv λz F=>Ok.it (λ_=>Ok.sm hy) λc=>?_
 exact Ok.ob (du hy.rt) λb G f=>Ok.ob gq λg eg u=>Ok.sm (la.made f hy.gr u)
theorem Ae(h:∀m,∀x∈n.l,Ok (rec R x m) (la R m B)) (hl:1<=n.l.length/\n.l.length<=9) (h2:n.op=1\/n.op=2->2<=n.l.length) (ao:1<=n.op/\n.op<=5):Ok (aF rec R n m) (la R m (9*B)):=by
 have E:∀{z:Nd}{i:Int},z=gel n.l i->0<=i/\i<(n.l.length:Int)->z∈n.l:=λe hi=>by rw[e];exact cu hi
 unfold aF
 refine Ok.bv λJ4 e4=>?_
 have a1:n.op=1->∀s,s.1=m->Ok (J4 s) (la R m (9*B)):=by
  intro W s hs
  have a6:=h2 (.inl W)
  rw[e4]
  refine Ok.ck oM (Ok.bv λx f=>Ok.ob (ue (h s.1 x (E f oM))) λy ey hy=>?_)
  rw[hs]at hy
  refine Ok.bv λz u=>Ok.it (λ_=>Ok.sm (hy.le oM)) λ_=>Ok.bv λz u=>Ok.it (λ_=>?_) λ_=>?_
  ·exact Ok.ck oM (Ok.bv λx f=>Ok.ob (h y.2 x (E f oM)) λq eq G=>Ok.sm (G.over hy.gr oM))
  refine Ok.bv λz u=>Ok.it (λc=>?_) λ_=>?_
  · rw[u,dT]at c
    exact Ok.ck oM (Ok.bv λx f=>Ok.ob (h y.2 x (E f oM)) λq eq G=>Ok.sm (G.over hy.gr oM))
  ·exact Ok.ob ba λb eb H=>Ok.ob gq λg eg J=>Ok.sm (la.made H (hy.gr.le oM) J)
 clear e4
 refine Ok.bv λz2 e2=>Ok.it (λc=>?_) λc2=>?_
 · rw[e2,dT]at c
   have a6:=h2 (.inr c)
   refine Ok.ck oM (Ok.bv λx f=>Ok.ob (h m x (E f oM)) λy ey hy=>Ok.bv λz u=>Ok.it (λ_=>Ok.sm (hy.le oM)) λ_=>?_)
   exact Ok.ck oM (Ok.bv λx f=>Ok.ob (h y.2 x (E f oM)) λq eq G=>Ok.sm (G.over hy.gr oM))
 rw[e2,dF]at c2
 refine Ok.bv λa7 X=>?_
 have F:∀s:Bool,(s=false->n.op≠3/\n.op≠4)->Ok (a7 s) (la R m (9*B)):=by
  intro s hs
  rw[X]
  refine Ok.it (λ_=>?_) λc=>?_
  · refine Ok.bv λb0 a8=>Ok.bv λb1 ad=>Ok.lp (λs=>∃i:Nat,s.1=(i:Int)/\i<=n.l.length/\Gr m (i*B) s.2.1) (λs=>n.l.length-s.1.toNat) ⟨0,O,Nat.zero_le _,Gr.refl _ _⟩ (by simp;omega) ?_
    rintro s ⟨i,W,h3,h4⟩ next hn
    rw[ad]
    refine Ok.bv λz u=>Ok.it (λc=>?_) λc=>?_
    · rw[u,W,dT]at c
      have hi:i<n.l.length:=oM
      have H:(i+1)*B<=9*B:=Nat.mul_le_mul_right B oM
      have b2:(i+1)*B=i*B+B:=Nat.succ_mul i B
      refine Ok.ck oM (Ok.bv λx f=>Ok.ob (ue (h s.2.1 x (E f oM))) λy ey hy=>?_)
      have Y:=la.over h4 hy (B2:=(i+1)*B) oM
      refine Ok.bv λ_ _=>Ok.bv λ_ _=>Ok.bv λ_ _=>Ok.bv λ_ _=>Ok.bv λ_ _=>Ok.it (λ_=>Ok.sm (Y.le H)) λ_=>Ok.bv λz9 e9=>?_
      have e:z9=((i+1:Nat):Int):=by
       rw[e9,W]
       have:=(au (z:=IntKind.wrap .i64 ((i:Int)+1)) rfl).2 oM
       rw[this]
       simp
      exact hn _ ⟨i+1,e,hi,Y.gr⟩ (by simp only[e,W];omega)
    · rw[a8]
      refine Ok.bv λ_ _=>Ok.ob ba λb eb H=>Ok.ob gq λg eg J=>Ok.sm (la.made H (h4.le (Nat.mul_le_mul_right B oM)) J)
  · obtain⟨c3,c4⟩:=hs c
    refine Ok.bv λz u=>Ok.it (λc=>?_) λc=>?_
    · refine Ok.ck oM (Ok.bv λx f=>Ok.ob (h m x (E f oM)) λy ey hy=>Ok.bv λz u=>Ok.it (λ_=>Ok.sm (hy.le oM)) λ_=>?_)
      refine Ok.ob (cX hy.rt) λv ev hv=>Ok.bv λz u=>Ok.it (λ_=>?_) λ_=>?_
      ·exact Ok.ob gq λg eg J=>Ok.sm (la.made hv.1 (hy.gr.le oM) J)
      refine Ok.bv λz1 e1=>Ok.bv λz2 e2=>Ok.bv λz3 e3=>Ok.bv λz4 e4=>Ok.it (λc=>?_) λ_=>?_
      · rw[e4,e3,e2,bA,dT,dT]at c
        exact Ok.ck oM (Ok.bv λx f=>Ok.ob (h y.2 x (E f oM)) λq eq G=>Ok.sm (G.over hy.gr oM))
      ·exact Ok.ob (av oM) λb eb H=>Ok.ob gq λg eg J=>Ok.sm (la.made H.1 (hy.gr.le oM) J)
    · rw[u,dF]at c
      exact a1 oM _ O
 clear X
 refine Ok.bv λz u=>Ok.it (λc=>F _ (by rw[c];exact λg=>by cases g)) λc=>Ok.bv λz' af=>F _ λg=>?_
 rw[u,dF]at c
 rw[af,dF]at g
 exact⟨c,g⟩
end Go.Sp
end
section
namespace Go.Sp
open Go.Stp Go.ValP
variable {rec:Rn->Nd->(List (C × Bool))->Option ((Gt) × List (C × Bool))}{R:Rn}{n:Nd}{m:List (C × Bool)}{B:Nat}
theorem fL{z:Int}{i:Nat}(e:z=IntKind.wrap .i64 ((i:Int)+1)) (hi:i<1000000):z=((i+1:Nat):Int):=by
 have:=(au e).2 oM
 rw[this]
 simp
theorem rz{σ α:Type}{B:σ->α->Option σ}{N:Nat}(I:σ->Nat->Prop) (step:∀s i x,i<N->I s i->Ok (B s x) λf=>I f (i+1)):∀(xs:List α) (s:σ) (i:Nat),i+xs.length<=N->I s i->Ok (gK B s xs) λf=>I f (i+xs.length)
 |[],s,i,_,h=>Ok.sm h
 |x::xs,s,i,E,h=>Ok.ob (step s i x (by simp only[List.length_cons]at E;omega) h) λf _ u=>(rz I step xs f (i+1) (by simp only[List.length_cons]at E;omega) u).mono λv F=>by
  have e:i+1+xs.length=i+(x::xs).length:=by simp only[List.length_cons];omega
  rw[<-e]
  exact F
theorem xt(hp:okP R.p) (hB:6<=B) (h:∀m,∀x∈n.l,Cn x/\Ok (rec R x m) (la R m B)) (hl:n.l.length<=9) (X:6<=n.op/\n.op<=54):Ok (cC rec R n m) (la R m (9*B)):=by
 have gm:∀{z:Nd}{i:Int},z=gel n.l i->0<=i/\i<(n.l.length:Int)->z∈n.l:=λe hi=>by rw[e];exact cu hi
 unfold cC
 refine Ok.bv λJ5 e5=>?_
 have a8:∀s,Gr m (9*B) s.1->s.2.2.2.2.2.2.2.length<=9->(∀a∈s.2.2.2.2.2.2.2,jR a)->Ok (J5 s) (la R m (9*B)):=by
  intro s Y h2 h3
  rw[e5]
  exact Ok.ob (kT X h2 h3) λv ev hv=>Ok.ob gq λg eg F=>Ok.sm (la.made hv Y F)
 clear e5
 refine Ok.bv λb7 ad=>Ok.lp (λs=>∃i:Nat,s.1=(i:Int)/\i<=n.l.length/\Gr m (i*B) s.2.1/\s.2.2.2.2.2.2.2.2.length=i/\∀a∈s.2.2.2.2.2.2.2.2,jR a) (λs=>n.l.length-s.1.toNat) ⟨0,O,Nat.zero_le _,Gr.refl _ _,O,λa ha=>by cases ha⟩ (by simp;omega) ?_
 rintro s ⟨i,Y,h3,h4,h5,h6⟩ next hn
 rw[ad]
 refine Ok.bv λz ez=>Ok.it (λc=>?_) λc=>a8 _ (h4.le (Nat.mul_le_mul_right B oM)) (by dsimp only;omega) h6
 rw[ez,Y,dT]at c
 have hi:i<n.l.length:=oM
 have hb:(i+1)*B<=9*B:=Nat.mul_le_mul_right B oM
 have bb:(i+1)*B=i*B+B:=Nat.succ_mul i B
 refine Ok.ck oM (Ok.bv λx ex=>?_)
 have hx:=h s.2.1 x (gm ex oM)
 refine Ok.ob (jJ (p:=R.p) hx.1) λy ey hy=>Ok.bv λaf a1=>?_
 have W:∀q,Gr m ((i+1)*B) q.1->(q.2.2.1=1\/q.2.2.1=2)->q.2.2.2.length<=6->(∀g∈q.2.2.2,Rt g.v/\Org R q.1 g)->Ok (af q) (la R m (9*B)):=by
  intro q k1 k2 k3 k4
  rw[a1]
  refine Ok.bv λao a6=>?_
  have a7:∀u,u.2.2.2.2.2.2.length<=6->(∀v∈u.2.2.2.2.2.2,Rt v)->Ok (ao u) (la R m (9*B)):=by
   intro u u1 u2
   rw[a6]
   refine Ok.ck (by simp only[List.length_cons,List.length_nil];omega) (Ok.bv λw G=>Ok.bv λz9 e9=>?_)
   rw[Y]at e9
   have e:=fL e9 oM
   refine hn _ ⟨i+1,e,hi,k1,by dsimp only;rw[G];simp;omega,?_⟩ (by simp only[e,Y];omega)
   dsimp only
   rw[G]
   exact eN h6 ⟨by dsimp only;omega,u2,k2⟩
  clear a6
  refine Ok.bv λbk b0=>Ok.lp (λu=>∃j:Nat,u.1=(j:Int)/\j<=q.2.2.2.length/\u.2.2.2.2.2.2.2.length=j/\∀v∈u.2.2.2.2.2.2.2,Rt v) (λu=>q.2.2.2.length-u.1.toNat) ⟨0,O,Nat.zero_le _,O,λa ha=>by cases ha⟩ (by simp;omega) ?_
  rintro u ⟨j,u1,u2,u3,u4⟩ b1 b2
  rw[b0]
  refine Ok.bv λz ez=>Ok.it (λc=>?_) λc=>a7 _ (by dsimp only;omega) u4
  rw[ez,u1,dT]at c
  refine Ok.ck oM (Ok.bv λg eg=>?_)
  have F:=k4 g (by rw[eg];exact cu oM)
  refine Ok.bv λz1 bq=>?_
  have b3:Ok (if z1=true then fk n.op else some default) λ_=>True:=Ok.it (λ_=>kP X) λ_=>Ok.sm trivial
  refine Ok.ob b3 λb eb _=>Ok.bv λz2 bs=>Ok.bv λz3 c6=>Ok.it (λ_=>Ok.sm ⟨F.1,k1.le hb,F.2⟩) λ_=>Ok.ck (by simp only[List.length_cons,List.length_nil];omega) (Ok.bv λw G=>Ok.bv λz9 e9=>?_)
  rw[u1]at e9
  have e:=fL e9 oM
  refine b2 _ ⟨j+1,e,oM,by dsimp only;rw[G];simp;omega,?_⟩ (by simp only[e,u1];omega)
  dsimp only
  rw[G]
  exact eN u4 F.1
 clear a1
 refine Ok.it (λc=>?_) λ_=>?_
 · have H:=hy c
   have:=H.c0;have:=H.c1;have:=H.c2;have:=H.c3
   refine Ok.bv λz1 e1=>Ok.bv λz2 e2=>?_
   have f1:=(au e1).2 oM
   have f2:=(au e2).2 oM
   refine Ok.ob (cells_ok H) λl el c7=>Ok.bv λb4 b5=>?_
   have hf:Ok (gK b4 (s.2.1,[]) l) λJ=>Gr s.2.1 (0+l.length) J.1/\J.2.length=0+l.length/\∀g∈J.2,Rt g.v/\Org R J.1 g:=by
    refine rz (N:=6) (λJ k=>Gr s.2.1 k J.1/\J.2.length=k/\∀g∈J.2,Rt g.v/\Org R J.1 g) ?_ l (s.2.1,[]) 0 oM ⟨Gr.refl _ _,O,λa ha=>by cases ha⟩
    rintro J k x hk ⟨g1,g2,g3⟩
    rw[b5]
    refine Ok.ob (o_ hp x J.1) λy2 b6 E=>Ok.ck (by simp only[List.length_cons,List.length_nil];omega) (Ok.bv λw G=>Ok.sm ⟨g1.trans E.gr oM,?_,?_⟩)
    · dsimp only
      rw[G]
      simp
      omega
    · dsimp only
      rw[G]
      exact eN (λg F=>⟨(g3 g F).1,(g3 g F).2.mono E.gr.sub⟩) ⟨E.rt,E.org⟩
   refine Ok.ob hf λf ef hf=>W _ (h4.trans hf.1 oM) (by dsimp only;omega) (by dsimp only;omega) hf.2.2
 · refine Ok.ob hx.2 λy2 b6 E=>Ok.ck (by simp) (Ok.bv λw G=>?_)
   have F:=h4.trans E.gr (B2:=(i+1)*B) oM
   refine W _ F (.inl O) (by dsimp only;rw[G];simp) ?_
   dsimp only
   rw[G]
   intro g F
   simp at F
   subst F
   exact⟨E.rt,E.org⟩
def okN:Nat->Nd->Prop
 |0,_=>False
 |d+1,n=>Cn n/\(n.k=1/\Rt n.v\/n.k=2\/n.k=3\/n.k=4\/(n.k=5\/n.k=6)/\n.l.length=1/\(∀x∈n.l,okN d x)\/n.k=7/\n.l.length=2/\(1<=n.op/\n.op<=11)/\(∀x∈n.l,okN d x)\/
  n.k=8/\(1<=n.op/\n.op<=54)/\n.l.length<=9/\(n.op<=5->1<=n.l.length)/\(n.op=1\/n.op=2->2<=n.l.length)/\∀x∈n.l,okN d x)
theorem okN.Dp{d:Nat}{n:Nd}(h:okN d n):Cn n:=by
 cases d with
 |zero=>exact h.elim
 |succ d=>exact h.1
theorem xY(hp:okP R.p) (hB:6<=B){d:Nat}(W:okN (d+1) n) (h:∀m,∀x,okN d x->Ok (rec R x m) (la R m B)):Ok (aW rec R n m) (la R m (9*B)):=by
 have gm:∀{z:Nd}{i:Int},z=gel n.l i->0<=i/\i<(n.l.length:Int)->z∈n.l:=λe hi=>by rw[e];exact cu hi
 obtain⟨a7,W⟩:=W
 unfold aW
 refine Ok.bv λz1 e1=>Ok.it (λc=>?_) λc1=>?_
 · rw[e1,dT]at c
   have X:Rt n.v:=by
    rcases W with h|h|h|h|h|h|h
    ·exact h.2
    all_goals omega
   exact Ok.ob gq λg eg u=>Ok.sm (la.made X (Gr.refl _ _) u)
 rw[e1,dF]at c1
 refine Ok.bv λJ9 e9=>?_
 have F:∀s:Bool,(s=false->n.k≠2/\n.k≠3/\n.k≠4)->Ok (J9 s) (la R m (9*B)):=by
  intro s hs
  rw[e9]
  refine Ok.it (λ_=>?_) λc=>?_
  · refine Ok.ob (jJ (p:=R.p) a7) λy Y hy=>Ok.bv λz2 e2=>Ok.it (λ_=>?_) λ_=>?_
    ·exact Ok.ob (av oM) λb eb hb=>Ok.ob gq λg eg u=>Ok.sm (la.made hb.1 (Gr.refl _ _) u)
    refine Ok.bv λz3 e3=>Ok.it (λ_=>?_) λ_=>?_
    ·exact Ok.ob (av oM) λb eb hb=>Ok.ob gq λg eg u=>Ok.sm (la.made hb.1 (Gr.refl _ _) u)
    exact Ok.ob (o_ hp _ m) λy Y hy=>Ok.sm (hy.le oM)
  · have hk:=hs c
    refine Ok.bv λa8 a1=>?_
    have E:∀s:Bool,(s=true->n.k=5\/n.k=6)->(s=false->n.k≠5/\n.k≠6)->Ok (a8 s) (la R m (9*B)):=by
     intro s ad af
     rw[a1]
     refine Ok.it (λc=>?_) λc=>?_
     · have ao:=ad c
       have f:n.l.length=1/\∀x∈n.l,okN d x:=by
        rcases W with h|h|h|h|h|h|h
        ·omega
        ·omega
        ·omega
        ·omega
        ·exact h.2
        ·omega
        ·omega
       refine Ok.ck oM (Ok.bv λx ex=>Ok.ob (h m x (f.2 x (gm ex oM))) λy Y hy=>Ok.bv λz G=>Ok.it (λ_=>Ok.sm (hy.le oM)) λ_=>?_)
       exact Ok.ob (iK hy.rt) λv ev X=>Ok.ob gq λg eg u=>Ok.sm (la.made X (hy.gr.le oM) u)
     · have ao:=af c
       refine Ok.bv λz4 e4=>Ok.it (λc=>?_) λc=>?_
       · rw[e4,dT]at c
         have f:n.l.length=2/\(1<=n.op/\n.op<=11)/\∀x∈n.l,okN d x:=by
          rcases W with h|h|h|h|h|h|h
          ·omega
          ·omega
          ·omega
          ·omega
          ·omega
          ·exact h.2
          ·omega
         refine Ok.ck oM (Ok.bv λx ex=>Ok.ob (h m x (f.2.2 x (gm ex oM))) λy Y hy=>Ok.bv λz G=>Ok.it (λ_=>Ok.sm (hy.le oM)) λcx=>?_)
         refine Ok.ck oM (Ok.bv λx2 bp=>Ok.ob (h y.2 x2 (f.2.2 x2 (gm bp oM))) λy2 b1 H=>Ok.bv λz2 J=>Ok.it (λ_=>Ok.sm (H.over hy.gr oM)) λcy=>?_)
         rw[G,dF]at cx
         rw[J,dF]at cy
         exact Ok.ob (gX f.2.1 hy.rt H.rt cx cy) λv ev X=>Ok.ob gq λg eg u=>Ok.sm (la.made X (hy.gr.trans H.gr oM) u)
       · rw[e4,dF]at c
         have f:(1<=n.op/\n.op<=54)/\n.l.length<=9/\(n.op<=5->1<=n.l.length)/\(n.op=1\/n.op=2->2<=n.l.length)/\∀x∈n.l,okN d x:=by
          rcases W with h|h|h|h|h|h|h
          ·omega
          ·omega
          ·omega
          ·omega
          ·omega
          ·omega
          ·exact h.2
         refine Ok.bv λz5 e5=>Ok.it (λc=>?_) λc=>?_
         · rw[e5,dT]at c
           exact Ok.ob (Ae (λm x hx=>h m x (f.2.2.2.2 x hx)) ⟨f.2.2.1 c,f.2.1⟩ f.2.2.2.1 ⟨f.1.1,c⟩) λy Y hy=>Ok.sm hy
         · rw[e5,dF]at c
           exact Ok.ob (xt hp hB (λm x hx=>⟨(f.2.2.2.2 x hx).Dp,h m x (f.2.2.2.2 x hx)⟩) f.2.1 ⟨oM,f.1.2⟩) λy Y hy=>Ok.sm hy
    clear a1
    refine Ok.bv λz G=>Ok.it (λc=>E _ (λ_=>?_) λg=>?_) λc=>Ok.bv λz' a6=>E _ (λg=>?_) λg=>?_
    · rw[G,dT]at c
      exact .inl c
    · rw[c]at g
      cases g
    · rw[a6,dT]at g
      exact .inr g
    · rw[a6,dF]at g
      rw[G,dF]at c
      exact⟨c,g⟩
 clear e9
 refine Ok.bv λz G=>Ok.it (λc=>F _ λg=>?_) λc=>Ok.bv λz2 J=>Ok.it (λc2=>F _ λg=>?_) λc2=>Ok.bv λz3 b0=>F _ λg=>?_
 · rw[c]at g
   cases g
 · rw[c2]at g
   cases g
 · rw[G,dF]at c
   rw[J,dF]at c2
   rw[b0,dF]at g
   exact⟨c,c2,g⟩
theorem uy(hp:okP R.p):∀(d k:Nat) (n:Nd) (m:List (C × Bool)),d<=k->okN d n->Ok (aM k R n m) (la R m (6*9 ^ d))
 |0,_,_,_,_,h=>h.elim
 |d+1,0,_,_,f,_=>absurd f oM
 |d+1,k+1,n,m,f,h=>by
  rw[gG]
  have E:1<=9 ^ d:=Nat.one_le_pow _ _ oM
  have e:6*9 ^ (d+1)=9*(6*9 ^ d):=by rw[Nat.pow_succ];omega
  rw[e]
  exact xY hp oM h λm x u=>uy hp d k x m oM u
theorem yl{n:Nd}{self:C}{p:List V}(hp:okP p){d:Nat}(hd:d<=7) (u:okN d n):∃r,la ⟨p,self⟩ [] (6*9 ^ d) r/\aM KK ⟨p,self⟩ n []=some r/\dV n self p=some ⟨r.1.v,if r.1.v.k=4 then r.1.c else⟨0,0,0⟩,uo r.2⟩:=by
 obtain⟨r,h,f⟩:=uy (R:=⟨p,self⟩) hp d KK n [] (by unfold KK;omega) u
 refine⟨r,f,h,?_⟩
 have hl:=f.gr.len
 have F:9 ^ d<=9 ^ 7:=Nat.pow_le_pow_right oM hd
 have E:(9:Nat) ^ 7=4782969:=by decide
 simp only[List.length_nil]at hl
 unfold dV
 rw[h]
 simp only[obind,aa,aJ]
 by_cases hk:r.1.v.k=4
 ·rw[if_pos (show decide (r.1.v.k=4)=true by simpa using hk),if_pos oM,if_pos hk]
 ·rw[if_neg (show ¬decide (r.1.v.k=4)=true by simpa using hk),if_pos oM,if_neg hk]
end Go.Sp
end
section
namespace Go.Sp
open Go.Stp Go.ValP
def BV(c n:Nat):Bool:=match cn (c+1:Nat) (n:Nat)with
 |some b=>!b||decide (5<=c)||(decide (1<=n)&&(decide (2<=c)||decide (2<=n)))
 |none=>false
theorem xp:((List.range 54).all λc=>(List.range 10).all λn=>BV c n)=true:=by decide +kernel
theorem zv{c:Int}{n:Nat}(h:1<=c/\c<=54) (F:n<=9):∃b,cn c (n:Int)=some b/\(b=true->(c<=5->1<=n)/\(c=1\/c=2->2<=n)):=by
 have f:=List.all_eq_true.1 (List.all_eq_true.1 xp (c-1).toNat (List.mem_range.2 oM)) n (List.mem_range.2 oM)
 unfold BV at f
 rw[show(((c-1).toNat+1:Nat):Int)=c by omega]at f
 split at f
 · rename_i b u
   refine⟨b,u,λE=>?_⟩
   subst E
   simp at f
   omega
 ·cases f
theorem Eg(n:Int):0<=bits .and .i64 n 3/\bits .and .i64 n 3<=3:=by
 have h:(BitVec.ofInt 64 n &&& BitVec.ofInt 64 3).toNat<=3:=by
  rw[BitVec.toNat_and]
  exact Nat.and_le_right
 show 0<=IntKind.i64.wrap ((BitVec.ofInt 64 n &&& BitVec.ofInt 64 3).toNat:Int)/\IntKind.i64.wrap ((BitVec.ofInt 64 n &&& BitVec.ofInt 64 3).toNat:Int)<=3
 generalize (BitVec.ofInt 64 n &&& BitVec.ofInt 64 3).toNat=v at h
 have:=(au (z:=IntKind.i64.wrap (v:Int)) rfl).2 oM
 omega
structure Fs (N:Nat) (l:List Int):Prop where
 len:l.length<=N
 by_:∀b∈l,0<=b/\b<=255
theorem rG{d:Nat}{v:V}(h:Rt v):okN (d+1) ⟨1,0,v,r0,r0,[],[]⟩:=⟨⟨λh=>by simp at h,λh=>by simp at h⟩,.inl ⟨rfl,h⟩⟩
theorem Cm{d:Nat}{r:Rf}(h:0<=r.c.c/\r.c.c<=3/\0<=r.c.r/\r.c.r<=3):okN (d+1) ⟨2,0,⟨0,0,[]⟩,r,r0,[],[]⟩:=⟨⟨λ_=>⟨h.1,by dsimp only;omega,by dsimp only;omega,by dsimp only;omega,h.2.2.1,by dsimp only;omega,by dsimp only;omega,by dsimp only;omega⟩,λh=>by simp at h⟩,.inr (.inl rfl)⟩
theorem wu{n:Nd}(h:5<=n.k):Cn n:=⟨λ_=>oM,λ_=>oM⟩
theorem AV{d:Nat}{op:Int}{l:List Nd}(f:1<=op/\op<=54) (hl:l.length<=9) (u:op<=5->1<=l.length) (E:op=1\/op=2->2<=l.length) (F:∀x∈l,okN d x):okN (d+1) ⟨8,op,⟨0,0,[]⟩,r0,r0,[],l⟩:=
 ⟨wu (by simp),.inr (.inr (.inr (.inr (.inr (.inr ⟨rfl,f,hl,u,E,F⟩)))))⟩
theorem l7{d:Nat}{k:Int}{x:Nd}(f:k=5\/k=6) (u:okN d x):okN (d+1) ⟨k,0,⟨0,0,[]⟩,r0,r0,[],[x]⟩:=
 ⟨wu (by dsimp only;omega),.inr (.inr (.inr (.inr (.inl ⟨f,rfl,λy hy=>by simp at hy;subst hy;exact u⟩))))⟩
theorem lu{d:Nat}{op:Int}{x y:Nd}(f:1<=op/\op<=11) (u:okN d x) (hy:okN d y):okN (d+1) ⟨7,op,⟨0,0,[]⟩,r0,r0,[],[x,y]⟩:=
 ⟨wu (by simp),.inr (.inr (.inr (.inr (.inr (.inl ⟨rfl,rfl,f,Az u hy⟩)))))⟩
variable {rec:(List Int)->Int->Option ((Nd) × (List Int))}
end Go.Sp
end
section
namespace Go.Sp
open Go.Stp Go.ValP
theorem zp:okP jT:=⟨mT,λv f=>by
 have:=List.eq_of_mem_replicate f
 rw[this]
 exact DA⟩
theorem BH{p:List V}(h:okP p){i:Nat}{v:V}(f:Rt v):okP (p.set i v):=⟨by rw[List.length_set];exact h.1,λx u=>by
 rcases List.mem_or_eq_of_mem_set u with g|g
 ·exact h.2 x g
 ·rw[g];exact f⟩
theorem zw{l:List V}(hl:l.length<=1000) (X:∀v∈l,-9223372036854775808<=v.n/\v.n<=9223372036854775807):Ok (dl l) okP:=by
 unfold dl
 refine Ok.bv λJ3 Y=>Ok.bv λB5 e5=>Ok.lp (λs=>∃i:Nat,s.1=(i:Int)/\i<=l.length/\okP s.2) (λs=>l.length-s.1.toNat) ⟨0,O,Nat.zero_le _,zp⟩ (by simp;omega) ?_
 rintro s ⟨i,f,h2,F⟩ next hnx
 rw[e5]
 refine Ok.bv λz ez=>Ok.it (λc=>?_) λc=>by rw[Y];exact Ok.sm F
 rw[ez,f,dT]at c
 refine Ok.ck oM (Ok.bv λv ev=>Ok.bv λz1 e1=>Ok.bv λz2 e2=>Ok.bv λJ G=>?_)
 have hv:=di X ev oM
 have hR:Ok (if J=true then co v else some default) λb=>b=true->J=true->Rt v:=Ok.it (λ_=>(oV hv).mono λ_ h g _=>h g) λhz=>Ok.sm λ_ h=>absurd h (by simp[hz])
 refine Ok.ob hR λb eb hb=>Ok.bv λz4 e4=>Ok.it (λu=>?_) λu=>?_
 · rw[e4,bA]at u
   have hr:=hb u.2 u.1
   have c5:=u.1
   rw[G,bA,e1,f,dT]at c5
   refine Ok.bv λz5 H=>Ok.bv λz6 W=>?_
   have g5:=C3 s.1
   rw[<-H]at g5
   rw[f,Int.tdiv_eq_ediv_of_nonneg oM]at W
   have g6:=(au W).2 oM
   refine Ok.ck oM (Ok.ck oM (Ok.bv λp ep=>Ok.bv λz7 E=>?_))
   rw[f]at E
   have e:=fL E oM
   exact hnx _ ⟨i+1,e,oM,by dsimp only;rw[ep];exact BH F hr⟩ (by simp only[e,f];omega)
 · refine Ok.bv λz7 E=>?_
   rw[f]at E
   have e:=fL E oM
   exact hnx _ ⟨i+1,e,oM,F⟩ (by simp only[e,f];omega)
theorem D7:eU=some true:=by kernel_rfl
def litN(v:V):Nd:=⟨1,0,v,r0,r0,[],[]⟩
theorem uh{v:V}:bg v=some (litN v):=rfl
theorem Ci{p:List V}{n0:Nd}{S:Int}(I:Nat->Nd->List Nd->Prop) (X:gQ KK n0=some S) (E:0<=S/\S<=1000000) (Y:I 0 n0 [n0]) (hl:∀i x out,I i x out->out.length=i+1)
 (step:∀i x out,I i x out->x.k≠1->(i:Int)<2*S->Ok (step_One KK x p) λm=>I (i+1) m (out++[m])):Ok (j8 n0 p) λout=>∃i x,I i x out/\(x.k=1\/(i:Int)=2*S):=by
 unfold j8
 refine Ok.bv λJ F=>?_
 rw[X]
 refine Ok.os λy ey=>Ok.bv λz ez=>Ok.bv λB eB=>?_
 have hz:=(au ez).2 oM
 rw[ey]at hz
 refine Ok.lp (λs=>∃i x out,s=(((i:Nat):Int),x.k,x.op,x.v.k,x.v.n,x.v.s,x.a.c.s,x.a.c.c,x.a.c.r,x.a.ac,x.a.ar,x.b.c.s,x.b.c.c,x.b.c.r,x.b.ac,x.b.ar,x.nm,x.l,out)/\I i x out/\(i:Int)<=2*S) (λs=>(2*S).toNat-s.1.toNat) ⟨0,n0,[n0],O,Y,oM⟩ (by dsimp only;omega) ?_
 rintro s ⟨i,⟨k,op,v,G,H,nm,l⟩,out,rfl,u,hi⟩ next hn
 have a1:=hl _ _ _ u
 rw[eB]
 refine Ok.bv λz1 W=>Ok.it (λc=>?_) λc=>?_
 · rw[W,hz,dT]at c
   dsimp only at c
   have hd:step_done ⟨k,op,v,G,H,nm,l⟩=some (decide (k=1)):=rfl
   refine Ok.ob (R:=λb=>b=decide (k=1)) ⟨_,hd,O⟩ λb _ E=>Ok.it (λc2=>?_) λc2=>?_
   · rw[E,dT]at c2
     rw[F]
     exact Ok.sm ⟨i,_,u,.inl c2⟩
   · rw[E,dF]at c2
     refine Ok.ob (step i ⟨k,op,v,G,H,nm,l⟩ out u c2 c) λm em hm=>Ok.ck (by dsimp only[List.length_cons,List.length_nil];omega) (Ok.bv λo eo=>Ok.bv λz2 e2=>?_)
     have f:=(au e2).2 (by dsimp only;omega)
     dsimp only at f
     exact hn _ ⟨i+1,m,o,by rw[f];simp,by rw[eo];exact hm,oM⟩ (by dsimp only;omega)
 · rw[W,hz,dF]at c
   dsimp only at c
   rw[F]
   exact Ok.sm ⟨i,_,u,.inr oM⟩
variable {ts R:List Tk}{t:Tk}{s e d:Int}{g:List UInt8}
theorem lc:gel (t::R) (0:Int)=t:=rfl
theorem oH:fd (t::R) (1:Int) ((t::R).length:Int)=R:=by
 unfold fd
 rw[Int.toNat_natCast,List.take_length]
 rfl
theorem mR(u:t.k=4) (hs:t.s=g):aN (t::R) s e d g=some (true,R):=by
 have f:Ok (aN (t::R) s e d g) λv=>v=(true,R):=by
  unfold aN
  refine Ok.bv λz1 E=>Ok.ck (λ_=>by simp only[List.length_cons];omega) (Ok.bv λz2 F=>Ok.bv λz3 G=>Ok.bv λz4 H=>Ok.ck (λ_=>by simp only[List.length_cons];omega) (Ok.bv λz5 J=>Ok.bv λz6 W=>Ok.bv λz7 X=>Ok.it (λc=>?_) λ_=>Ok.ck (by simp only[List.length_cons];omega) (Ok.bv λz8 Y=>Ok.sm ?_)))
  · rw[X,W,J,H,G,F,E,lc,u,hs,List.length_cons]at c
    simp at c
    omega
  ·rw[Y,oH]
 obtain⟨v,hv,rfl⟩:=f
 exact hv
theorem tR(h:∀t r,ts=t::r->¬(t.k=4/\t.s=g)):aN ts s e d g=some (false,ts):=by
 have u:Ok (aN ts s e d g) λv=>v=(false,ts):=by
  unfold aN
  cases ts with
  |nil=>
   refine Ok.bv λF G=>?_
   have Y:F=true:=by rw[G];rfl
   subst Y
   refine Ok.ck (λc=>by cases c) (Ok.bv λz2 H=>Ok.bv λz3 J=>Ok.bv λz4 f=>?_)
   rw[Bool.true_or]at f
   subst f
   refine Ok.ck (λc=>by cases c) (Ok.bv λz5 W=>Ok.bv λz6 X=>Ok.bv λz7 E=>Ok.it (λ_=>Ok.sm rfl) λc=>by rw[E]at c;cases c)
  |cons t r=>
   have ht:=h t r rfl
   refine Ok.bv λF G=>Ok.ck (λ_=>by simp only[List.length_cons];omega) (Ok.bv λz2 H=>Ok.bv λz3 J=>Ok.bv λz4 f=>Ok.ck (λ_=>by simp only[List.length_cons];omega) (Ok.bv λz5 W=>Ok.bv λz6 X=>Ok.bv λz7 E=>Ok.it (λ_=>Ok.sm rfl) λc=>?_))
   rw[E,X,W,f,J,H,Bool.or_eq_false_iff,Bool.or_eq_false_iff,lc]at c
   exact absurd ⟨by simpa using c.1.2,by simpa using c.2⟩ ht
 obtain⟨v,hv,rfl⟩:=u
 exact hv
theorem wv(f:t.k=4) (hs:t.s=g):ce (t::R) s e d g=some ((),R):=by
 unfold ce
 rw[mR f hs]
 rfl
theorem oa{f:List Tk->Int->Int->Int->Option (Nd × List Tk)}{m:Nd}(hd:0<=d/\d<=63) (h:f ts s e (d+1)=some (m,R)):be ts s e d f=some (m,R):=by
 have u:Ok (be ts s e d f) λv=>v=(m,R):=by
  unfold be
  refine Ok.bv λX E=>Ok.it (λc=>by rw[E,dT]at c;omega) λ_=>Ok.bv λY F=>?_
  have G:=(au F).2 oM
  rw[G,h]
  refine Ok.os λy H=>Ok.bv λz3 J=>Ok.ck (by rw[(au J).2 oM];omega) (Ok.sm (by rw[H]))
 obtain⟨v,W,rfl⟩:=u
 exact W
def te:List (List UInt8):=[[43],[45],[42],[47],[38],[61],[60,62],[60],[60,61],[62],[62,61]]
theorem yi:Lib.fields qf=te:=by decide +kernel
def xS:List (List (List UInt8)):=[[[61],[60,62],[60],[60,61],[62],[62,61]],[[38]],[[43],[45]],[[42],[47]]]
theorem Cv:((List.range 4).all λl=>decide (Lib.fields (gel levelsL (l:Int))=gel xS (l:Int)))=true:=by decide +kernel
theorem BO{l:Int}(h:0<=l/\l<4):Lib.fields (gel levelsL l)=gel xS l:=by
 have:=List.all_eq_true.1 Cv l.toNat (by simp;omega)
 rw[dT,show((l.toNat:Nat):Int)=l by omega]at this
 exact this
theorem DY:((List.range 4).all λl=>decide ((gel levelsL (l:Int)).length<4294967281/\((gel levelsL (l:Int)).all λb=>decide (b.toNat<128))=true))=true:=by decide +kernel
theorem B9{l:Int}(h:0<=l/\l<4):(gel levelsL l).length<4294967281/\((gel levelsL l).all λb=>decide (b.toNat<128))=true:=by
 have:=List.all_eq_true.1 DY l.toNat (by simp;omega)
 rw[dT,show((l.toNat:Nat):Int)=l by omega]at this
 exact this
theorem yw{l:Int}(h:0<=l/\l<4):(gel xS l).length<=6:=by
 have hl:l=0\/l=1\/l=2\/l=3:=oM
 rcases hl with rfl|rfl|rfl|rfl<;>decide
theorem D6{l:List (List UInt8)}{i:Nat}(h:i<l.length):l[i]?=some (gel l (i:Int)):=by
 have:=ak (l:=l) (i:=(i:Int)) oM
 rwa[Int.toNat_natCast]at this
theorem Dt{l:Int}(hl:0<=l/\l<4) (h:∀t r,ts=t::r->t.k=4->t.s ∉ gel xS l):bV ts s e d l=some (0,ts):=by
 have u:Ok (bV ts s e d l) λv=>v=(0,ts):=by
  unfold bV
  cases ts with
  |nil=>
   refine Ok.bv λG H=>?_
   have h1:G=true:=by rw[H];rfl
   subst h1
   exact Ok.ck (λc=>by cases c) (Ok.bv λz2 W=>Ok.bv λz3 X=>Ok.bv λz4 E=>Ok.it (λ_=>Ok.sm rfl) λc=>by rw[E]at c;cases c)
  |cons t r=>
   have ht:=h t r rfl
   refine Ok.bv λG H=>Ok.ck (λ_=>by simp only[List.length_cons];omega) (Ok.bv λz2 W=>Ok.bv λz3 X=>Ok.bv λz4 E=>Ok.it (λ_=>Ok.sm rfl) λc=>?_)
   have hk:t.k=4:=by
    rw[E,X,W,Bool.or_eq_false_iff,lc]at c
    simpa using c.2
   refine Ok.ck (by simp only[List.length_cons];omega) (Ok.bv λz5 e5=>Ok.bv λJ eJ=>Ok.ck hl (Ok.bv λF f=>?_))
   subst f
   refine Ok.ck (B9 hl) (Ok.bv λF f=>Ok.bv λB eB=>?_)
   rw[BO hl]at f
   subst f
   have Y:=yw hl
   refine Ok.lp (λq=>∃i:Nat,q=((i:Int),t::r)/\i<=(gel xS l).length) (λq=>10-q.1.toNat) ⟨0,O,Nat.zero_le _⟩ (by dsimp only;omega) ?_
   rintro q ⟨i,rfl,hi⟩ next hn
   rw[eB]
   refine Ok.bv λz6 e6=>Ok.it (λc=>?_) λc=>?_
   · rw[e6,dT]at c
     dsimp only at c
     refine Ok.ck (by dsimp only;omega) (Ok.bv λz7 e7=>Ok.bv λz8 e8=>Ok.it (λ_=>Ok.bv λz9 e9=>?_) λc8=>?_)
     · have h9:=(au e9).2 (by dsimp only;omega)
       exact hn _ ⟨i+1,by rw[h9];rfl,oM⟩ (by dsimp only;rw[h9];dsimp only;omega)
     · rw[e8,e5,lc]at c8
       have:z7=t.s:=by simpa using c8
       exact absurd (this▸e7▸List.mem_of_getElem? (D6 oM)) (ht hk)
   · rw[eJ]
     exact Ok.sm O
 obtain⟨v,hv,rfl⟩:=u
 exact hv
def lev(o:Int):Int:=if 6<=o then 0 else if o=5 then 1 else if o<=2 then 2 else 3
theorem CR(o:Int):g8 o=some (lev o):=by
 unfold g8 lev
 simp only[aa]
 by_cases f:6<=o
 ·simp[f]
 by_cases u:o=5
 ·simp[u]
 by_cases E:o<=2<;>simp[f,u,E]
theorem mN(o:Int):0<=lev o/\lev o<4:=by
 unfold lev
 split
 ·omega
 · split
   ·omega
   ·split<;>omega
def tI(o:Int):List UInt8:=gel te (o-1)
theorem zJ:((List.range 11).all λi=>(gel xS (lev ((i+1:Nat):Int))).contains (gel te (i:Int))&&(List.range i).all λj=>!decide (gel te (j:Int)=gel te (i:Int)))=true:=by decide +kernel
theorem CS{o:Int}(ho:1<=o/\o<=11) (hk:t.k=4) (hs:t.s=tI o):bV (t::R) s e d (lev o)=some (o,R):=by
 have Y:=List.all_eq_true.1 zJ (o-1).toNat (by simp;omega)
 have a1:(((o-1).toNat+1:Nat):Int)=o:=oM
 have f:(((o-1).toNat:Nat):Int)=o-1:=oM
 rw[a1,f,bA]at Y
 have u:tI o∈gel xS (lev o):=List.contains_iff_mem.1 Y.1
 have E:∀j:Nat,j<(o-1).toNat->gel te (j:Int)≠tI o:=λj hj G=>by
  have:=List.all_eq_true.1 Y.2 j (by simp;omega)
  rw[show gel te (j:Int)=gel te (o-1)from G]at this
  simp at this
 have hl:=mN o
 have a6:Ok (bV (t::R) s e d (lev o)) λv=>v=(o,R):=by
  unfold bV
  refine Ok.bv λz1 e1=>Ok.ck (λ_=>by simp only[List.length_cons];omega) (Ok.bv λz2 e2=>Ok.bv λz3 e3=>Ok.bv λz4 e4=>Ok.it (λc=>?_) λ_=>?_)
  · rw[e4,e3,e2,e1,lc,hk,List.length_cons]at c
    simp at c
    omega
  refine Ok.ck (by simp only[List.length_cons];omega) (Ok.bv λz5 e5=>Ok.bv λJ eJ=>Ok.ck hl (Ok.bv λF W=>?_))
  subst W
  refine Ok.ck (B9 hl) (Ok.bv λF W=>Ok.bv λB eB=>?_)
  rw[BO hl]at W
  subst W
  have b2:=yw hl
  obtain⟨i0,a7,a8⟩:=List.getElem?_of_mem u |>.imp λi h=>(⟨(List.getElem?_eq_some_iff.1 h).1,h⟩:i<(gel xS (lev o)).length/\_)
  refine Ok.lp (λq=>∃i:Nat,q=((i:Int),t::R)/\i<=i0) (λq=>10-q.1.toNat) ⟨0,O,Nat.zero_le _⟩ (by dsimp only;omega) ?_
  rintro q ⟨i,rfl,hi⟩ next hn
  rw[eB]
  refine Ok.bv λz6 e6=>Ok.it (λc=>?_) λc=>by rw[e6,dF]at c;dsimp only at c;omega
  refine Ok.ck (by dsimp only;omega) (Ok.bv λz7 e7=>Ok.bv λz8 e8=>Ok.it (λX=>Ok.bv λz9 e9=>?_) λX=>?_)
  · have h9:=(au e9).2 (by dsimp only;omega)
    have ad:i≠i0:=λG=>by
     subst G
     rw[e8,e5,lc,hs,e7]at X
     have:=D6 a7
     rw[a8]at this
     rw[<-Option.some.inj this]at X
     simp at X
    exact hn _ ⟨i+1,by rw[h9];rfl,oM⟩ (by dsimp only;rw[h9];dsimp only;omega)
  · refine Ok.ck (by simp only[List.length_cons];omega) (Ok.bv λz9 e9=>Ok.ck (by decide) (Ok.bv λF2 H=>Ok.bv λB2 af=>?_))
    rw[yi]at H
    subst H
    have hL:te.length=11:=rfl
    refine Ok.lp (λq=>∃j:Nat,q=(j:Int)/\j<=(o-1).toNat) (λq=>20-q.toNat) ⟨0,O,Nat.zero_le _⟩ oM ?_
    rintro q ⟨j,rfl,hj⟩ ao b0
    rw[af]
    refine Ok.bv λw1 f1=>Ok.it (λc1=>?_) λc1=>by rw[f1,dF]at c1;omega
    refine Ok.ck oM (Ok.bv λw2 f2=>Ok.bv λw3 f3=>Ok.it (λc3=>Ok.bv λw4 f4=>Ok.sm ?_) λc3=>Ok.bv λw4 f4=>?_)
    · have b3:j=(o-1).toNat:=by
       by_cases b1:j<(o-1).toNat
       · rw[f3,f2,e5,lc,hs,dT]at c3
         exact absurd c3 (E j b1)
       ·omega
      rw[(au f4).2 oM,e9]
      dsimp only
      rw[oH]
      have:(j:Int)+1=o:=oM
      rw[this]
    · have ad:j≠(o-1).toNat:=λG=>by
       subst G
       rw[f3,f2,e5,lc,hs,f]at c3
       simp[tI]at c3
      rw[(au f4).2 oM]
      exact b0 _ ⟨j+1,oM,oM⟩ oM
 obtain⟨v,hv,rfl⟩:=a6
 exact hv
end Go.Sp
end
section
namespace Go.Sp
open Go.Stp Go.ValP
abbrev TE:=List Tk->Int->Int->Int->Int->Option (Nd × List Tk)
abbrev TU:=List Tk->Int->Int->Int->Option (Nd × List Tk)
def exB(rec:TE) (e d l:Int):(List Tk × Nd->Option (Nd × List Tk))->List Tk × Nd->Option (Nd × List Tk):=λf s=>
 obind (bV s.1 0 e d l) λy=>if decide (y.1=0)=true then some (s.2,y.2)else
  obind (rec y.2 0 e d (l+1)) λq=>obind (iw y.1 s.2 q.1) λb=>f (q.2,b)
def pcB(e d:Int):(List Tk × Nd->Option (Nd × List Tk))->List Tk × Nd->Option (Nd × List Tk):=λf s=>
 obind (aN s.1 0 e d [37]) λy=>if y.1=true then obind (gh 6 s.2) λq=>f (y.2,q)else some (s.2,y.2)
variable {rec:TE}{recu:TU}{ts us R:List Tk}{t:Tk}{s e D:Int}{g:List UInt8}{m:Nd}{k K:Nat}{L l:Int}
theorem uQ{α β:Type}(x:Option (α × β)):(obind x λy=>some (y.1,y.2))=x:=by cases x<;>rfl
theorem Bb{x:Int}(h:-9223372036854775808<=x/\x<=9223372036854775807):IntKind.wrap .i64 x=x:=(au rfl).2 h
theorem wf(hl:0<=l/\l<4):bG rec recu ts 0 e D l=obind (rec ts 0 e D (l+1)) λy=>loopF (exB rec e D l) KK (y.2,y.1):=by
 unfold bG
 generalize KK=K
 have h:decide (l=4)=false:=by rw[dF];omega
 simp only[aa,h,Bb (show -9223372036854775808<=l+1/\l+1<=9223372036854775807 by omega)]
 rfl
theorem yd:bG rec recu ts 0 e D 4=aU rec recu ts 0 e D:=by
 unfold bG
 generalize KK=K
 generalize aU rec recu ts 0 e D=X
 exact uQ X
theorem Aq(f:Nat) (u:KK=f) (h:aN ts 0 e D [45]=some (false,ts)):aU rec recu ts 0 e D=obind (parse_parser_primary rec ts 0 e D) λy=>loopF (pcB e D) f (y.2,y.1):=by
 unfold aU
 rw[u,h]
 generalize parse_parser_primary=E
 rfl
theorem tB(h:∀t r,ts=t::r->¬(t.k=4/\t.s=[45])):aU rec recu ts 0 e D=obind (parse_parser_primary rec ts 0 e D) λy=>loopF (pcB e D) KK (y.2,y.1):=Aq KK rfl (tR h)
theorem unary_neg{t:Tk}{m:Nd}(u:t.k=4) (hs:t.s=[45]) (E:0<=D/\D<=63) (h:recu ts 0 e (D+1)=some (m,R)):aU rec recu (t::ts) 0 e D=some (⟨5,0,⟨0,0,[]⟩,r0,r0,[],[m]⟩,R):=by
 unfold aU
 rw[mR u hs]
 have hi:=oa (f:=λa b c e=>recu a b c e) E h
 show obind (be ts 0 e D λa b c e=>recu a b c e) _=_
 rw[hi]
 rfl
def Fo(L:Int) (R:List Tk):Prop:=∀t r,R=t::r->t.k=4/\(t.s=[41]\/t.s=[44]\/(∃o:Int,(1<=o/\o<=11)/\t.s=tI o/\lev o<L)\/L=5/\t.s=[37])
theorem Fo.mono{u:Int}(h:Fo L R) (hl:L<=u) (F:u<=5):Fo u R:=λt r e=>by
 obtain⟨f,h2|h2|⟨o,h2,E,G⟩|⟨h2,E⟩⟩:=h t r e
 ·exact⟨f,.inl h2⟩
 ·exact⟨f,.inr (.inl h2)⟩
 ·exact⟨f,.inr (.inr (.inl ⟨o,h2,E,oM⟩))⟩
 ·exact⟨f,.inr (.inr (.inr ⟨oM,E⟩))⟩
theorem CD:((List.range 11).all λi=>(List.range 4).all λl=>(decide (lev ((i+1:Nat):Int)=(l:Int))||!(gel xS (l:Int)).contains (gel te (i:Int))))=true:=by decide +kernel
theorem DD:([[41],[44],[37]]:List (List UInt8)).all (λg=>(List.range 4).all λl=>!(gel xS (l:Int)).contains g)=true:=by decide +kernel
theorem D5:((List.range 11).all λi=>!(gel te (i:Int) == [37])&&!(gel te (i:Int) == [40])&&!(gel te (i:Int) == [58]))=true:=by decide +kernel
theorem u6{o:Int}(f:1<=o/\o<=11):∃i:Nat,i<11/\o=((i+1:Nat):Int)/\tI o=gel te (i:Int):=⟨(o-1).toNat,oM,oM,by
 unfold tI
 rw[show(((o-1).toNat:Nat):Int)=o-1 by omega]⟩
theorem x8{g:List UInt8}(f:g=[41]\/g=[44]\/g=[37]) (hl:0<=l/\l<4):g ∉ gel xS l:=λu=>by
 have h:=List.all_eq_true.1 DD g (by rcases f with h|h|h<;>simp[h])
 have h:=List.all_eq_true.1 h l.toNat (by simp;omega)
 rw[show((l.toNat:Nat):Int)=l by omega]at h
 simp[u]at h
theorem CO{o:Int}(u:1<=o/\o<=11) (hl:0<=l/\l<4) (f:lev o≠l):tI o ∉ gel xS l:=λE=>by
 obtain⟨i,hi,F,G⟩:=u6 u
 have h:=List.all_eq_true.1 CD i (by simpa using hi)
 have h:=List.all_eq_true.1 h l.toNat (by simp;omega)
 rw[show((l.toNat:Nat):Int)=l by omega,<- F,<- G]at h
 simp[f,E]at h
theorem Fo.op(h:Fo L R) (hl:0<=l/\l<4) (F:L<=l):bV R s e D l=some (0,R):=Dt hl λt r E _ f=>by
 obtain⟨G,h2|h2|⟨o,h2,u,H⟩|⟨h2,u⟩⟩:=h t r E
 ·exact x8 (.inl h2) hl f
 ·exact x8 (.inr (.inl h2)) hl f
 · rw[u]at f
   exact CO h2 hl oM f
 ·omega
theorem Fo.no{g:List UInt8}(h:Fo L R) (f:g=[40]\/g=[58]\/(g=[37]/\L<=4)):∀t r,R=t::r->¬(t.k=4/\t.s=g):=λt r F hh=>by
 have hs:=hh.2
 obtain⟨H,h2|h2|⟨o,h2,u,J⟩|⟨h2,u⟩⟩:=h t r F
 · rw[h2]at hs;subst hs
   rcases f with g|g|⟨g,_⟩<;>cases g
 · rw[h2]at hs;subst hs
   rcases f with g|g|⟨g,_⟩<;>cases g
 · obtain⟨i,hi,W,G⟩:=u6 h2
   have E:=List.all_eq_true.1 D5 i (by simpa using hi)
   rw[<-G,<- u,hs]at E
   rcases f with g|g|⟨g,_⟩<;>subst g<;>simp at E
 · rw[u]at hs;subst hs
   rcases f with g|g|⟨g,X⟩
   ·cases g
   ·cases g
   ·omega
theorem Fo.loop(h:Fo L R) (hl:0<=l/\l<4) (f:L<=l) (K:Nat):loopF (exB rec e D l) (K+1) (R,m)=some (m,R):=by
 show exB rec e D l _ (R,m)=_
 unfold exB
 rw[h.op hl f]
 rfl
theorem Fo.Ej(h:Fo L R) (f:L<=4) (K:Nat):loopF (pcB e D) (K+1) (R,m)=some (m,R):=by
 show pcB e D _ (R,m)=_
 unfold pcB
 rw[tR (h.no (.inr (.inr ⟨rfl,f⟩)))]
 rfl
theorem EU:KK=(KK-1)+1:=by unfold KK;omega
theorem E8(h:(parse_ring k).1 ts 0 e D (l+1)=some (m,R)) (hl:0<=l/\l<4) (f:Fo l R):(parse_ring (k+1)).1 ts 0 e D l=some (m,R):=by
 show bG (parse_ring k).1 (parse_ring k).2 ts 0 e D l=_
 rw[wf hl,h]
 show loopF (exB (parse_ring k).1 e D l) KK (R,m)=_
 rw[EU]
 exact f.loop hl (Int.le_refl _) _
theorem Ek:∀(j:Nat){k:Nat}{L l:Int},L+j=l->0<=L->l<=4->(parse_ring k).1 ts 0 e D l=some (m,R)->Fo L R->(parse_ring (k+j)).1 ts 0 e D L=some (m,R)
 |0,k,L,l,u,_,_,h,_=>by
  obtain rfl:l=L:=oM
  exact h
 |j+1,k,L,l,u,E,F,h,f=>by
  have:=Ek j (L:=L+1) oM oM F h (f.mono oM oM)
  exact E8 this ⟨E,oM⟩ f
def As(us:List Tk) (ps:List Pt):Prop:=us.map (λt=>(t.k,t.s))=ps.map λp=>(p.k,p.s)
theorem As.cons{p:Pt}{ps:List Pt}(h:As us (p::ps)):∃t r,us=t::r/\t.k=p.k/\t.s=p.s/\As r ps:=by
 cases us with
 |nil=>cases h
 |cons t r=>
  unfold As at h
  simp only[List.map_cons,List.cons.injEq,Prod.mk.injEq]at h
  exact⟨t,r,O,h.1.1,h.1.2,h.2⟩
theorem As.nil(h:As us []):us=[]:=by
 cases us with
 |nil=>rfl
 |cons t r=>cases h
theorem As.app{ps qs:List Pt}(h:As us (ps++qs)):∃u v,us=u++v/\As u ps/\As v qs:=by
 induction ps generalizing us with
 |nil=>exact⟨[],us,O,O,h⟩
 |cons p ps E=>
  obtain⟨t,r,rfl,F,G,H⟩:=As.cons h
  obtain⟨u,v,rfl,f,J⟩:=E H
  refine⟨t::u,v,O,?_,J⟩
  unfold As at f⊢
  rw[List.map_cons,List.map_cons,f,F,G]
def sg(g:List UInt8):Pt:=⟨4,g,g⟩
def br(h L:Int) (cs:List Pt):List Pt:=if h<L then sg [40]::(cs++[sg [41]])else cs
structure CoreP (w:Nat) (h:Int) (cs:List Pt) (m:Nd):Prop where
 hh:0<=h/\h<=5
 fst:∀us,As us cs->∃t r,us=t::r/\¬(t.k=4/\t.s=[41])/\(h=5->¬(t.k=4/\t.s=[45]))
 p5:h=5->∀(k:Nat) (e D:Int) (us R:List Tk) (K:Nat),20*w<=k+10->0<=D/\D+2*w<=61->As us cs->Fo 5 R->w<=K->∃K',K<=K'+w/\(obind (parse_parser_primary (parse_ring k).1 (us++R) 0 e D) λy=>loopF (pcB e D) K (y.2,y.1))=loopF (pcB e D) K' (R,m)
 p4:h=4->∀(k:Nat) (e D:Int) (us R:List Tk),20*w<=k+10->0<=D/\D+2*w<=61->As us cs->Fo 4 R->(parse_ring k).2 (us++R) 0 e D=some (m,R)
 p3:h<=3->∀(k:Nat) (e D:Int) (us R:List Tk) (K:Nat),20*w<=k+10->0<=D/\D+2*w<=61->As us cs->Fo (h+1) R->w<=K->∃K',K<=K'+w/\(obind ((parse_ring k).1 (us++R) 0 e D (h+1)) λy=>loopF (exB (parse_ring k).1 e D h) K (y.2,y.1))=loopF (exB (parse_ring k).1 e D h) K' (R,m)
variable {w:Nat}{h:Int}{cs:List Pt}
theorem CoreP.mono{w':Nat}(H:CoreP w h cs m) (W:w<=w'):CoreP w' h cs m:=⟨H.hh,H.fst,
 λf k e D us R K F G u E J=>by
  obtain⟨K',a,b⟩:=H.p5 f k e D us R K oM oM u E oM
  exact⟨K',oM,b⟩,
 λf k e D us R F G u E=>H.p4 f k e D us R oM oM u E,
 λf k e D us R K F G u E J=>by
  obtain⟨K',a,b⟩:=H.p3 f k e D us R K oM oM u E oM
  exact⟨K',oM,b⟩⟩
theorem CoreP.yF(H:CoreP w h cs m) (Y:w<=1000) (f:h=5) (F:20*w<=k+10) (G:0<=D/\D+2*w<=61) (u:As us cs) (E:Fo L R) (J:L<=4):aU (parse_ring k).1 recu (us++R) 0 e D=some (m,R):=by
 obtain⟨t,r,rfl,h1,W⟩:=H.fst us u
 rw[tB (λt' r' X=>by cases X;exact W f)]
 obtain⟨K',a,b⟩:=H.p5 f k e D (t::r) R KK F G u (E.mono oM oM) (by unfold KK;omega)
 rw[b]
 obtain⟨q,rfl⟩:∃q,K'=q+1:=⟨K'-1,by unfold KK at a;omega⟩
 exact E.Ej J q
theorem CoreP.DM(H:CoreP w h cs m) (W:w<=1000) (hk:20*w<=k+5) (X:5<=k) (F:0<=D/\D+2*w<=61) (G:As us cs) (f:0<=L/\L<=h/\L<=4) (u:Fo L R):(parse_ring k).1 (us++R) 0 e D L=some (m,R):=by
 have hh:=H.hh
 by_cases Y:h<=3
 · obtain⟨j,J⟩:∃j:Nat,L+j=h:=⟨(h-L).toNat,oM⟩
   obtain⟨q,rfl⟩:∃q,k=(q+1)+j:=⟨k-j-1,oM⟩
   refine Ek j J f.1 oM ?_ u
   show bG (parse_ring q).1 (parse_ring q).2 (us++R) 0 e D h=_
   rw[wf oM]
   have E:=u.mono f.2.1 oM
   obtain⟨K',a,b⟩:=H.p3 Y q e D us R KK oM F G (E.mono oM oM) (by unfold KK;omega)
   rw[b]
   obtain⟨z,rfl⟩:∃z,K'=z+1:=⟨K'-1,by unfold KK at a;omega⟩
   exact E.loop oM (Int.le_refl _) z
 · obtain⟨j,J⟩:∃j:Nat,L+j=4:=⟨(4-L).toNat,oM⟩
   obtain⟨q,rfl⟩:∃q,k=(q+1)+j:=⟨k-j-1,oM⟩
   refine Ek j J f.1 oM ?_ u
   show bG (parse_ring q).1 (parse_ring q).2 (us++R) 0 e D 4=_
   rw[yd]
   rcases(by omega:h=4\/h=5)with h4|h5
   · have:=H.p4 h4 (q+1) e D us R oM F G (u.mono f.2.2 oM)
     exact this
   ·exact H.yF W h5 oM F G u f.2.2
theorem CoreP.CX(H:CoreP w h cs m) (W:w<=1000) (X:20*w<=k+5) (E:5<=k) (hD:0<=D/\D+2*w<=60) (Y:As us (sg [40]::(cs++[sg [41]]))):parse_parser_primary (parse_ring k).1 (us++R) 0 e D=some (m,R):=by
 obtain⟨t,r,rfl,h1,h2,h3⟩:=As.cons Y
 obtain⟨u,v,rfl,h4,h5⟩:=As.app h3
 obtain⟨q,r,rfl,G,J,h8⟩:=As.cons h5
 rw[As.nil h8]
 unfold parse_parser_primary
 rw[List.cons_append,mR (g:=[40]) h1 h2]
 have hF:Fo 0 (q::R):=λt r er=>by cases er;exact⟨G,.inl J⟩
 have hi:=H.DM (e:=e) (D:=D+1) W X E oM h4 ⟨Int.le_refl _,H.hh.1,by decide⟩ hF
 have hc:u++[q]++R=u++(q::R):=by simp
 have hp:(λa b c e=>bF (parse_ring k).1 a b c e) (u++(q::R)) 0 e (D+1)=some (m,q::R):=by
  show bF (parse_ring k).1 (u++(q::R)) 0 e (D+1)=_
  unfold bF
  rw[hi]
  rfl
 have F:=oa (f:=λa b c e=>bF (parse_ring k).1 a b c e) oM hp
 show obind (be (u++[q]++R) 0 e D λa b c e=>bF (parse_ring k).1 a b c e) _=_
 rw[hc,F]
 show obind (ce (q::R) 0 e D [41]) _=_
 rw[wv (g:=[41]) G J]
 rfl
theorem CoreP.pri(H:CoreP w h cs m) (E:w<=1000) (F:20*w<=k+5) (u:5<=k) (G:0<=D/\D+2*w<=60) (f:As us (br h 5 cs)) (J:Fo 5 R) (W:w<=K):∃K',K<=K'+w/\(obind (parse_parser_primary (parse_ring k).1 (us++R) 0 e D) λy=>loopF (pcB e D) K (y.2,y.1))=loopF (pcB e D) K' (R,m):=by
 unfold br at f
 split at f
 · refine⟨K,oM,?_⟩
   rw[H.CX E F u G f]
   rfl
 · have:=H.hh
   exact H.p5 oM k e D us R K oM oM f J W
theorem CoreP.Dz(H:CoreP w h cs m) (E:w<=1000) (Y:20*w<=k+4) (F:6<=k) (G:0<=D/\D+2*w<=60) (f:As us (br h 4 cs)) (u:Fo 4 R):(parse_ring k).2 (us++R) 0 e D=some (m,R):=by
 have hh:=H.hh
 obtain⟨q,rfl⟩:∃q,k=q+1:=⟨k-1,oM⟩
 unfold br at f
 split at f
 · show aU (parse_ring q).1 (parse_ring q).2 (us++R) 0 e D=_
   obtain⟨t,r,rfl,h1,J,h3⟩:=As.cons f
   rw[tB (λt' r' W=>by cases W;rw[J];exact λg=>nomatch g.2),H.CX E oM oM G f]
   show loopF (pcB e D) KK (R,m)=_
   rw[EU]
   exact u.Ej (by decide) _
 · rcases(by omega:h=4\/h=5)with X|h5
   ·exact H.p4 X (q+1) e D us R oM oM f u
   ·exact H.yF E h5 oM oM f u (by decide)
theorem CoreP.par(H:CoreP w h cs m) (J:w<=1000) (hk:20*w<=k) (W:20<=k) (X:0<=D/\D+2*w<=60) (u:As us (br h L cs)) (E:0<=L/\L<=4) (F:Fo L R):(parse_ring k).1 (us++R) 0 e D L=some (m,R):=by
 have hh:=H.hh
 by_cases f:h<L
 · obtain⟨j,Y⟩:∃j:Nat,L+j=4:=⟨(4-L).toNat,oM⟩
   obtain⟨q,rfl⟩:∃q,k=(q+1)+j:=⟨k-j-1,oM⟩
   refine Ek j Y E.1 oM ?_ F
   show bG (parse_ring q).1 (parse_ring q).2 (us++R) 0 e D 4=_
   rw[yd]
   have G:br h 4 cs=br h L cs:=by unfold br;rw[if_pos f,if_pos oM]
   rw[<-G]at u
   exact H.Dz (k:=q+1) J oM oM X u (F.mono E.2 oM)
 · have G:br h L cs=cs:=by unfold br;rw[if_neg f]
   rw[G]at u
   exact H.DM J oM oM oM u ⟨E.1,oM,E.2⟩ F
end Go.Sp
end
section
namespace Go.Sp
open Go.Stp Go.ValP
theorem Cx{a r:List UInt8}{b:UInt8}(E:b.toNat<128):rn (a++b::r) a.length=(b.toNat:Int)/\iN (a++b::r) a.length=a.length+1:=by
 have f:a.length<(⟨(a++b::r).toArray⟩:ByteArray).size:=by simp[ByteArray.size]
 have u:(⟨(a++b::r).toArray⟩:ByteArray)[a.length]'f=b:=by
  show((a++b::r).toArray)[a.length]'_=b
  simp
 have hd:=decode_ascii ⟨(a++b::r).toArray⟩ a.length f (by rw[u];exact E)
 rw[u]at hd
 refine⟨by unfold rn;rw[hd],?_⟩
 unfold iN
 rw[hd,if_pos (by simp)]
def pd:List UInt8->Int × Int × Int->Option (Int × Int × Int)
 |[],s=>some s
 |b::r,s=>if b=46/\s.2.1<0 then pd r (s.1,0,s.2.2)
  else if 48<=b.toNat/\b.toNat<=57/\s.2.1≠6 then pd r (s.1*10+((b.toNat:Int)-48),(if 0<=s.2.1 then s.2.1+1 else s.2.1),s.2.2+1)else none
theorem wm:∀{r:List UInt8}{s t:Int × Int × Int},pd r s=some t->0<=s.1->s.1<=t.1
 |[],s,t,h,_=>by cases h;exact Int.le_refl _
 |b::r,s,t,h,f=>by
  unfold pd at h
  split at h
  ·exact wm (s:=(s.1,0,s.2.2)) h f
  · split at h
    · rename_i u
      have:=wm h (by dsimp only;omega)
      dsimp only at this
      omega
    ·cases h
theorem xb{n:Int}(h:0<=n/\n<=9223372036854775807):dQ n false=some (n,true):=by
 have f:Ok (dQ n false) λv=>v=(n,true):=by
  unfold dQ
  refine Ok.bv λz e=>Ok.it (λc=>by rw[e,dT]at c;omega) λ_=>Ok.it (λc=>by cases c) λ_=>Ok.bv λF u=>Ok.sm ?_
  rw[(au u).2 oM]
 obtain⟨v,E,rfl⟩:=f
 exact E
theorem yE{d:List UInt8}{n p g N:Int}(h:pd d (0,-1,0)=some (n,p,g)) (hg:g≠0) (hp:p≠0) (hN:n*((10 ^ (6-(max p 0).toNat):Nat):Int)=N) (hb:N<=9223372036854775807) (hl:d.length<=1000):cv d=some (N,true):=by
 have a7:Ok (cv d) λv=>v=(N,true):=by
  unfold cv
  refine Ok.bv λJ2 e2=>Ok.bv λB eB=>?_
  have E:∀k:Nat,(1:Int)<=((10 ^ k:Nat):Int):=λk=>by
   have:1<=10 ^ k:=Nat.one_le_pow _ _ oM
   omega
  have a8:0<=n:=wm h (by decide)
  have b6:n<=N:=by
   rw[<-hN]
   have:=Int.mul_le_mul_of_nonneg_left (E (6-(max p 0).toNat)) a8
   omega
  refine Ok.lp (λs=>∃a r,d=a++r/\s.2.2.2=a.length/\pd r (s.1,s.2.1,s.2.2.1)=some (n,p,g)/\0<=s.1/\(-1<=s.2.1/\s.2.1<=6)/\0<=s.2.2.1/\s.2.2.1<=(a.length:Int)) (λs=>d.length-s.2.2.2) ⟨[],d,O,O,h,by decide,by decide,by decide,by decide⟩ (by dsimp only;omega) ?_
  rintro⟨u,sp,sg,si⟩ ⟨a,r,rfl,i1,f,i3,i4,i5⟩ next hn
  dsimp only at i1 f i3 i4 i5 hn
  subst i1
  rw[eB]
  refine Ok.bv λz e=>Ok.it (λc=>?_) λc=>?_
  · rw[e,dT,List.length_append]at c
    dsimp only at c
    cases r with
    |nil=>simp at c
    |cons b r=>
     rw[List.length_append,List.length_cons]at hl
     have ad:b.toNat<128:=by
      unfold pd at f
      split at f
      ·rename_i q;rw[q.1];decide
      · split at f
        ·rename_i q;omega
        ·cases f
     obtain⟨r1,r2⟩:=Cx (a:=a) (r:=r) ad
     refine Ok.bv λaf G=>?_
     simp only[r1,r2]at G⊢
     refine Ok.bv λz1 f1=>Ok.bv λz2 f2=>Ok.bv λz3 f3=>Ok.it (λc3=>?_) λc3=>?_
     · rw[f3,bA,f1,f2,dT,dT]at c3
       have H:b=46:=UInt8.toNat_inj.1 (by show b.toNat=46;omega)
       unfold pd at f
       rw[if_pos ⟨H,c3.2⟩]at f
       exact hn _ ⟨a++[b],r,by simp,by simp,f,i3,by dsimp only;omega,i5.1,by simp;omega⟩ (by dsimp only;simp;omega)
     · have J:¬(b=46/\sp<0):=λq=>by
        rw[f3,f1,f2,q.1,decide_eq_true q.2]at c3
        cases c3
       unfold pd at f
       rw[if_neg J]at f
       split at f
       · rename_i q
         dsimp only at q f
         have W:=wm f (by dsimp only;omega)
         dsimp only at W
         have hJ:Ok (af (if 0<=sp then sp+1 else sp)) λv=>v=(N,true):=by
          rw[G]
          refine Ok.ck oM (Ok.bv λw1 F=>Ok.bv λw2 X=>Ok.bv λw3 Y=>?_)
          have ao:=(EP X).2 oM
          have b0:=(j0 Y).2 oM
          refine Ok.ck (by rw[F];dsimp only;omega) (Ok.bv λw4 g4=>Ok.bv λw5 g5=>Ok.bv λw6 g6=>?_)
          have h4:w4=(u*10+((b.toNat:Int)-48),0):=by
           rw[g4,F,b0,ao]
           dsimp only
           rw[Int.add_zero,Int.emod_eq_of_lt oM oM,Int.emod_eq_of_lt oM oM,Int.ediv_eq_zero_of_lt oM oM]
          have h5:w5=0:=by
           rw[g5,F,h4]
           dsimp only
           rw[Int.ediv_eq_zero_of_lt oM oM]
           rfl
          refine Ok.it (λc6=>by rw[g6,h5]at c6;cases c6) λ_=>Ok.bv λw7 g7=>?_
          have h7:=(au g7).2 oM
          exact hn _ ⟨a++[b],r,by simp,by simp,by dsimp only;rw[h4,h7];exact f,by dsimp only;rw[h4];dsimp only;omega,by dsimp only;split<;>omega,by dsimp only;omega,by dsimp only;simp;omega⟩ (by dsimp only;simp;omega)
         refine Ok.bv λz4 f4=>Ok.bv λz5 f5=>Ok.bv λz6 f6=>Ok.bv λz7 f7=>Ok.bv λz8 f8=>Ok.it (λc8=>?_) λ_=>Ok.bv λz9 f9=>Ok.it (λc9=>Ok.bv λb7 f10=>?_) λc9=>?_
         · rw[f8,f7,f6,f5,f4,Bool.or_eq_true,Bool.or_eq_true,dT,dT,dT]at c8
           omega
         · rw[f9,dT]at c9
           rw[(au f10).2 oM]
           rw[if_pos c9]at hJ
           exact hJ
         · rw[f9,dF]at c9
           rw[if_neg c9]at hJ
           exact hJ
       ·cases f
  · rw[e,dF,List.length_append]at c
    dsimp only at c
    have hr:r=[]:=List.length_eq_zero_iff.1 oM
    subst hr
    cases f
    rw[e2]
    refine Ok.bv λJ4 e4=>Ok.bv λz1 f1=>Ok.bv λB2 b1=>?_
    have b2:z1=((max p 0).toNat:Nat):=by rw[f1];dsimp only;omega
    refine Ok.lp (λs=>∃k:Nat,s.2=(k:Int)/\k<=6/\0<=s.1/\s.1*((10 ^ (6-k):Nat):Int)=N) (λs=>6-s.2.toNat) ⟨(max p 0).toNat,b2,oM,i3,hN⟩ (by dsimp only;omega) ?_
    rintro⟨u,sk⟩ ⟨k,rfl,k2,k3,k4⟩ b3 a1
    dsimp only at k3 k4 a1
    rw[b1]
    have bb:u<=N:=by
     rw[<-k4]
     have:=Int.mul_le_mul_of_nonneg_left (E (6-k)) k3
     omega
    refine Ok.bv λz2 f2=>Ok.it (λc2=>?_) λc2=>?_
    · rw[f2,dT]at c2
      dsimp only at c2
      have b4:(10 ^ (6-k):Nat)=10*10 ^ (6-(k+1)):=by
       rw[show 6-k=(6-(k+1))+1 by omega,Nat.pow_succ,Nat.mul_comm]
      have a6:u*10*((10 ^ (6-(k+1)):Nat):Int)=N:=by
       rw[<-k4,b4,Int.natCast_mul,Int.mul_assoc]
       rfl
      have W:u*10<=N:=by
       rw[<-a6]
       have:=Int.mul_le_mul_of_nonneg_left (E (6-(k+1))) (show 0<=u*10 by omega)
       omega
      refine Ok.ck (by dsimp only;omega) (Ok.bv λw1 F=>Ok.bv λw2 X=>?_)
      have h1:w1=(0,u*10):=by
       rw[F]
       dsimp only
       rw[Int.ediv_eq_zero_of_lt oM oM,Int.emod_eq_of_lt oM oM]
      refine Ok.it (λc3=>by rw[X,h1]at c3;cases c3) λ_=>Ok.bv λw3 Y=>?_
      have h3:=(au Y).2 (by dsimp only;omega)
      dsimp only at h3
      exact a1 _ ⟨k+1,by dsimp only;rw[h3];rfl,oM,by dsimp only;rw[h1];dsimp only;omega,by dsimp only;rw[h1];exact a6⟩ (by dsimp only;omega)
    · rw[f2,dF]at c2
      dsimp only at c2
      obtain rfl:k=6:=oM
      have b5:u=N:=by
       rw[<-k4]
       show u=u*1
       omega
      rw[e4]
      refine Ok.bv λw1 F=>Ok.bv λw2 X=>Ok.bv λw3 Y=>Ok.it (λc3=>?_) λ_=>?_
      · rw[Y,X,F,Bool.or_eq_true,dT,dT]at c3
        exact absurd c3 (by dsimp only;intro q;exact q.elim hg hp)
      dsimp only
      rw[xb oM]
      refine Ok.os λy ey=>Ok.sm ?_
      rw[ey,b5]
 obtain⟨v,hv,rfl⟩:=a7
 exact hv
variable {rec:TE}{ts us R:List Tk}{t:Tk}{s e D:Int}{g:List UInt8}{m:Nd}{k K:Nat}{L l:Int}{v c:Int}
theorem CJ(h:t.k≠4){g:List UInt8}:∀f r,t::R=f::r->¬(f.k=4/\f.s=g):=λf r u hh=>by cases u;exact h hh.1
theorem jH{P:Nd × List Tk->Prop}(hk:t.k≠4)
 (h1:t.k=1->∃v,cv t.s=some (v,true)/\P (litN ⟨1,v,[]⟩,R))
 (h2:t.k=2->t.s.length<=64/\P (litN ⟨2,0,t.s⟩,R))
 (h5:t.k=5->∃c,fX t.s=some (c,true)/\P (litN ⟨4,c,[]⟩,R))
 (h3:t.k≠1->t.k≠2->t.k≠5->Ok (cf rec (t::R) 0 e D t) P):Ok (parse_parser_primary rec (t::R) 0 e D) P:=by
 have u:(0:Int)<((t::R).length:Int):=by simp only[List.length_cons];omega
 have f:(0:Int)<=1/\(1:Int)<=((t::R).length:Int)/\((t::R).length:Int)<=((t::R).length:Int):=by simp only[List.length_cons];omega
 unfold parse_parser_primary
 rw[tR (CJ hk)]
 refine Ok.os λy E=>?_
 subst E
 refine Ok.it (λc=>by cases c) λ_=>Ok.bv λJ eJ=>Ok.bv λz1 e1=>Ok.ck (λ_=>⟨Int.le_refl _,u⟩) (Ok.bv λz2 e2=>Ok.bv λz3 e3=>Ok.bv λz4 e4=>Ok.it (λc=>?_) λ_=>?_)
 · rw[e4,Bool.or_eq_true,e1,e3,dT,dT,e2]at c
   dsimp only at c
   rw[lc]at c
   omega
 rw[eJ]
 refine Ok.ck ⟨Int.le_refl _,u⟩ (Ok.bv λX Y=>?_)
 dsimp only at Y
 rw[lc]at Y
 subst Y
 refine Ok.bv λw1 f1=>Ok.it (λc=>?_) λc1=>Ok.bv λw2 f2=>Ok.it (λc=>?_) λc2=>Ok.bv λw3 f3=>Ok.it (λc=>?_) λc3=>?_
 · rw[f1,dT]at c
   obtain⟨v,hv,F⟩:=h1 c
   rw[hv]
   refine Ok.os λy E=>Ok.bv λJ6 e6=>Ok.bv λz7 e7=>Ok.it (λc=>by rw[e7,E]at c;cases c) λ_=>?_
   rw[e6,E]
   refine Ok.ck f (Ok.bv λz8 G=>Ok.os λa H=>Ok.os λb W=>Ok.sm ?_)
   rw[W,H,G]
   dsimp only
   rw[oH]
   exact F
 · rw[f2,dT]at c
   obtain⟨hl,F⟩:=h2 c
   refine Ok.bv λJ6 e6=>Ok.bv λz7 e7=>Ok.it (λc=>by rw[e7,dT]at c;omega) λ_=>?_
   rw[e6]
   refine Ok.ck f (Ok.bv λz8 G=>?_)
   have hT:bw X.s=some ⟨2,0,X.s⟩:=by
    unfold bw
    have:decide (64<(X.s.length:Int))=false:=by rw[dF];omega
    simp[aa,this]
   rw[hT]
   refine Ok.os λa H=>Ok.os λb W=>Ok.sm ?_
   rw[W,H,G]
   dsimp only
   rw[oH]
   exact F
 · rw[f3,dT]at c
   obtain⟨v,hv,F⟩:=h5 c
   rw[hv]
   refine Ok.os λy E=>Ok.ck f (Ok.bv λz8 G=>Ok.os λa H=>Ok.os λb W=>Ok.sm ?_)
   rw[W,H,G,E]
   dsimp only
   rw[oH]
   exact F
 · rw[f1,dF]at c1
   rw[f2,dF]at c2
   rw[f3,dF]at c3
   refine Ok.ob (h3 c1 c2 c3) λy _ hy=>Ok.sm hy
theorem j4{α:Type}{x:Option α}{v:α}(h:Ok x λy=>y=v):x=some v:=by
 obtain⟨y,hy,rfl⟩:=h
 exact hy
theorem CoreP.tok{u:Int}{t0 d:List UInt8}(G:u≠4) (h:∀(t:Tk) (k:Nat) (e D:Int) (R:List Tk),t.k=u->t.s=d->Fo 5 R->parse_parser_primary (parse_ring k).1 (t::R) 0 e D=some (m,R)):CoreP 1 5 [⟨u,t0,d⟩] m where
 hh:=by decide
 fst us E:=by
  obtain⟨t,r,rfl,f,F,H⟩:=As.cons E
  have f:t.k=u:=f
  exact⟨t,r,O,λg=>G (f▸g.1),λ_ g=>G (f▸g.1)⟩
 p5 _ k e D us R K f F E J W:=by
  obtain⟨t,r,rfl,f,F,H⟩:=As.cons E
  rw[As.nil H]
  refine⟨K,oM,?_⟩
  show obind (parse_parser_primary (parse_ring k).1 (t::R) 0 e D) _=_
  rw[h t k e D R f F J]
  rfl
 p4 h:=by cases h
 p3 h:=absurd h (by decide)
theorem zL{d:List UInt8}(h:cv d=some (v,true)):CoreP 1 5 [⟨1,d,d⟩] (litN ⟨1,v,[]⟩):=.tok (by decide) λt k e D R f hs u=>j4 (jH (by rw[f];decide) (λ_=>⟨v,by rw[hs];exact h,O⟩) (λq=>by rw[f]at q;cases q) (λq=>by rw[f]at q;cases q) (λq=>absurd f q))
theorem Dh{d t0:List UInt8}(h:d.length<=64):CoreP 1 5 [⟨2,t0,d⟩] (litN ⟨2,0,d⟩):=.tok (by decide) λt k e D R f hs u=>j4 (jH (by rw[f];decide) (λq=>by rw[f]at q;cases q) (λ_=>⟨by rw[hs];exact h,by rw[hs]⟩) (λq=>by rw[f]at q;cases q) (λ_ q=>absurd f q))
theorem Ee:((List.range 7).all λi=>decide (fX (gel tg (i:Int))=some (((i+1:Nat):Int),true)))=true:=by decide +kernel
theorem CT(h:1<=c/\c<=7):CoreP 1 5 [⟨5,gel tg (c-1),gel tg (c-1)⟩] (litN ⟨4,c,[]⟩):=.tok (by decide) λt k e D R f hs u=>j4 (jH (by rw[f];decide) (λq=>by rw[f]at q;cases q) (λq=>by rw[f]at q;cases q) (λ_=>⟨c,by
 have:=List.all_eq_true.1 Ee (c-1).toNat (by simp;omega)
 rw[dT]at this
 rw[hs]
 rw[show(((c-1).toNat:Nat):Int)=c-1 by omega,show(((c-1).toNat+1:Nat):Int)=c by omega]at this
 exact this,O⟩) (λ_ _ q=>absurd f q))
theorem sE{P:Nd × List Tk->Prop}(X:∀t r,R=t::r->¬(t.k=4/\t.s=[40]))
 (h:Ok (cG t.s 0) λy=>if y.2=true then Ok (dc R 0 e D y.1) P else(t.s=[84,82,85,69]\/t.s=[70,65,76,83,69])/\P (litN ⟨3,if t.s=[84,82,85,69]then 1 else 0,[]⟩,R)):Ok (cf rec (t::R) 0 e D t) P:=by
 have f:(0:Int)<=1/\(1:Int)<=((t::R).length:Int)/\((t::R).length:Int)<=((t::R).length:Int):=by simp only[List.length_cons];omega
 unfold cf
 refine Ok.bv λz1 E=>Ok.ck (λc=>by rw[E,dT]at c;exact⟨by decide,c⟩) (Ok.bv λz2 Y=>Ok.bv λz3 e3=>Ok.bv λz4 W=>Ok.ck (λc=>?_) (Ok.bv λz5 e5=>Ok.bv λz6 e6=>Ok.bv λz7 e7=>Ok.it (λc=>?_) λ_=>?_))
 · rw[W,bA,E,dT]at c
   exact⟨by decide,c.1⟩
 · rw[e7,e6,e5,W,e3,Y,E,bA,bA,dT,dT,dT]at c
   cases R with
   |nil=>simp at c
   |cons q r=>exact absurd ⟨c.1.2,c.2⟩ (X q r O)
 refine Ok.ob h λy ey hy=>?_
 split at hy
 · rename_i u
   refine Ok.it (λ_=>Ok.ck f (Ok.bv λz8 F=>?_)) λc=>by rw[u]at c;cases c
   rw[F,oH]
   exact Ok.ob hy λa _ ha=>Ok.sm ha
 · rename_i u
   refine Ok.it (λc=>absurd c u) λ_=>Ok.bv λz8 F=>Ok.bv λz9 e9=>Ok.bv λa1 G=>Ok.it (λ_=>Ok.ck f (Ok.bv λa6 H=>Ok.bv λa7 J=>?_)) λc=>?_
   · rw[fQ]
     refine Ok.os λa ea=>Ok.os λb eb=>Ok.sm ?_
     rw[eb,H,oH,ea,J]
     have:=hy.2
     by_cases hs:t.s=[84,82,85,69]
     · rw[if_pos hs]at this
       simpa[hs,litN]using this
     · rw[if_neg hs]at this
       simpa[hs,litN]using this
   · rw[G,Bool.or_eq_false_iff,F,e9,dF,dF]at c
     exact absurd hy.1 (λg=>g.elim c.1 c.2)
theorem Ef:(match cG [84,82,85,69] 0,cG [70,65,76,83,69] 0 with
 |some a,some b=>!a.2&&!b.2
 |_,_=>false)=true:=by decide +kernel
theorem D8{d:List UInt8}(h:d=[84,82,85,69]\/d=[70,65,76,83,69]):∃r,cG d 0=some (r,false):=by
 have:=Ef
 split at this
 · rename_i a b f u
   obtain⟨J,E⟩:=a
   obtain⟨W,F⟩:=b
   rw[bA]at this
   have G:E=false:=by simpa using this.1
   have H:F=false:=by simpa using this.2
   subst G H
   rcases h with rfl|rfl
   ·exact⟨_,f⟩
   ·exact⟨_,u⟩
 ·cases this
theorem Aw{d:List UInt8}(h:d=[84,82,85,69]\/d=[70,65,76,83,69]):CoreP 1 5 [⟨3,d,d⟩] (litN ⟨3,if d=[84,82,85,69]then 1 else 0,[]⟩):=.tok (by decide) λt k e D R f hs u=>j4 (jH (by rw[f];decide) (λq=>by rw[f]at q;cases q) (λq=>by rw[f]at q;cases q) (λq=>by rw[f]at q;cases q) (λ_ _ _=>sE (u.no (.inl rfl)) (by
 obtain⟨r,E⟩:=D8 h
 rw[hs]
 exact⟨(r,false),E,by
  dsimp only
  rw[if_neg Bool.false_ne_true]
  exact⟨h,O⟩⟩)))
theorem Bh{d:List UInt8}{r:Rf}(h:cG d 0=some (r,true)):CoreP 1 5 [⟨3,d,d⟩] ⟨2,0,⟨0,0,[]⟩,r,r0,[],[]⟩:=.tok (by decide) λt k e D R f hs u=>j4 (jH (by rw[f];decide) (λq=>by rw[f]at q;cases q) (λq=>by rw[f]at q;cases q) (λq=>by rw[f]at q;cases q) (λ_ _ _=>sE (u.no (.inl rfl)) (by
 rw[hs]
 refine⟨(r,true),h,?_⟩
 dsimp only
 rw[if_pos rfl]
 unfold dc
 rw[tR (u.no (.inr (.inl rfl)))]
 refine Ok.os λy E=>Ok.bv λz F=>Ok.it (λ_=>Ok.os λa G=>Ok.sm (by rw[G,E])) λc=>by rw[F,E]at c;cases c)))
theorem Bo{d b:List UInt8}{r q:Rf}(h:cG d 0=some (r,true)) (h2:cG b r.c.s=some (q,true)) (hs:q.c.s=r.c.s):CoreP 1 5 [⟨3,d,d⟩,sg [58],⟨3,b,b⟩] ⟨3,0,⟨0,0,[]⟩,r,q,[],[]⟩ where
 hh:=by decide
 fst us W:=by
  obtain⟨t,u,rfl,E,_,_⟩:=As.cons W
  have E:t.k=3:=E
  exact⟨t,u,O,λg=>(by rw[E]at g;exact absurd g.1 (by decide)),λ_ g=>(by rw[E]at g;exact absurd g.1 (by decide))⟩
 p5 _ k e D us R K E a8 W hF hK:=by
  obtain⟨t,u,rfl,f,X,F⟩:=As.cons W
  obtain⟨t2,u,rfl,Y,G,F⟩:=As.cons F
  obtain⟨t3,u,rfl,a1,a6,F⟩:=As.cons F
  have f:t.k=3:=f
  rw[As.nil F]
  refine⟨K,oM,?_⟩
  show obind (parse_parser_primary (parse_ring k).1 (t::t2::t3::R) 0 e D) _=_
  have:parse_parser_primary (parse_ring k).1 (t::t2::t3::R) 0 e D=some (⟨3,0,⟨0,0,[]⟩,r,q,[],[]⟩,R):=j4 (jH (by rw[f];decide) (λq=>by rw[f]at q;cases q) (λq=>by rw[f]at q;cases q) (λq=>by rw[f]at q;cases q) (λ_ _ _=>sE (λt' r er g=>by
   cases er
   rw[G]at g
   exact nomatch g.2) (by
   rw[X]
   refine⟨(r,true),h,?_⟩
   dsimp only
   rw[if_pos rfl]
   unfold dc
   rw[mR (g:=[58]) Y G]
   refine Ok.os λy H=>?_
   subst H
   refine Ok.bv λz ez=>Ok.it (λc=>by rw[ez]at c;cases c) λ_=>Ok.bv λJ eJ=>Ok.bv λz1 e1=>Ok.ck (λ_=>by simp only[List.length_cons];omega) (Ok.bv λz2 e2=>Ok.bv λz3 e3=>Ok.bv λz4 e4=>Ok.it (λc=>?_) λ_=>?_)
   · rw[e4,Bool.or_eq_true,e1,e3,e2]at c
     dsimp only at c
     rw[lc,a1]at c
     simp at c
     omega
   rw[eJ]
   refine Ok.ck (by simp only[List.length_cons];omega) (Ok.bv λz5 e5=>?_)
   dsimp only at e5
   rw[lc]at e5
   rw[e5,a6]
   dsimp only
   rw[h2]
   refine Ok.os λy H=>Ok.bv λJ6 e6=>Ok.bv λz7 e7=>Ok.bv λz8 e8=>Ok.bv λz9 e9=>Ok.it (λc=>?_) λ_=>?_
   · rw[e9,e8,e7,H]at c
     simp[hs]at c
   rw[e6]
   refine Ok.ck (by simp only[List.length_cons];omega) (Ok.bv λad a7=>Ok.os λa ea=>Ok.sm ?_)
   rw[ea,H,a7]
   dsimp only
   rw[oH])))
  rw[this]
  rfl
 p4 h:=by cases h
 p3 h:=absurd h (by decide)
end Go.Sp
end
section
namespace Go.Sp
open Go.Stp Go.ValP
def fitB(c:Int) (n:Nat):Bool:=(cn c (n:Int)).getD false
theorem yM:((List.range 54).all λc=>(List.range 10).all λn=>decide (cn ((c+1:Nat):Int) ((n:Nat):Int)=some (fitB ((c+1:Nat):Int) n)))=true:=by decide +kernel
theorem Ah:((List.range 54).all λc=>(List.range 4).any λn=>fitB ((c+1:Nat):Int) n)=true:=by decide +kernel
theorem pj{c:Int}{n:Nat}(h:1<=c/\c<=54) (u:n<=9):cn c (n:Int)=some (fitB c n):=by
 have f:=List.all_eq_true.1 (List.all_eq_true.1 yM (c-1).toNat (List.mem_range.2 oM)) n (List.mem_range.2 oM)
 rw[show(((c-1).toNat+1:Nat):Int)=c by omega]at f
 exact of_decide_eq_true f
theorem xq{c:Int}(h:1<=c/\c<=54):∃n,n<=3/\fitB c n=true:=by
 have u:=List.all_eq_true.1 Ah (c-1).toNat (List.mem_range.2 oM)
 obtain⟨n,E,f⟩:=List.any_eq_true.1 u
 rw[show(((c-1).toNat+1:Nat):Int)=c by omega]at f
 exact⟨n,by have:=List.mem_range.1 E;omega,f⟩
structure sV (Q:Nat->Nd->Prop):Prop where
 lit:∀d v,Rt v->Q (d+1) ⟨1,0,v,r0,r0,[],[]⟩
 cell:∀d (r:Rf),0<=r.c.c/\r.c.c<=3/\0<=r.c.r/\r.c.r<=3/\0<=r.c.s/\r.c.s<=1->Q (d+1) ⟨2,0,⟨0,0,[]⟩,r,r0,[],[]⟩
 span:∀d (r:Rf) (x y:Int),0<=r.c.c/\r.c.c<=3/\0<=r.c.r/\r.c.r<=3/\0<=r.c.s/\r.c.s<=1->r.c.c<=x/\x<=r.c.c+1->r.c.r<=y/\y<=r.c.r+2->Q (d+1) ⟨3,0,⟨0,0,[]⟩,r,⟨⟨r.c.s,x,y⟩,r.ac,r.ar⟩,[],[]⟩
 un:∀d k x,k=5\/k=6->Q d x->Q (d+1) ⟨k,0,⟨0,0,[]⟩,r0,r0,[],[x]⟩
 bin:∀d op x y,1<=op/\op<=11->Q d x->Q d y->Q (d+1) ⟨7,op,⟨0,0,[]⟩,r0,r0,[],[x,y]⟩
 call:∀d op (l:List Nd),1<=op/\op<=54->l.length<=3->fitB op l.length=true->(∀x∈l,Q d x)->Q (d+1) ⟨8,op,⟨0,0,[]⟩,r0,r0,[],l⟩
theorem wG{n k:Int}:Ok (c_ n k) λr=>0<=r.c.c/\r.c.c<=3/\0<=r.c.r/\r.c.r<=3/\0<=r.c.s/\r.c.s<=1:=by
 unfold c_
 refine Ok.bv λ_ _=>Ok.bv λ_ _=>Ok.bv λ_ _=>Ok.bv λ_ _=>Ok.bv λ_ _=>Ok.bv λ_ _=>Ok.bv λX F=>Ok.bv λG Y=>Ok.bv λz3 H=>Ok.bv λJ W=>?_
 have E:∀s,0<=s/\s<=1->Ok (J s) λr=>0<=r.c.c/\r.c.c<=3/\0<=r.c.r/\r.c.r<=3/\0<=r.c.s/\r.c.s<=1:=by
  intro s hs
  rw[W]
  have f:=Eg n
  have u:=Eg G
  rw[<-F]at f
  rw[<-H]at u
  exact Ok.sm ⟨f.1,f.2,u.1,u.2,hs.1,hs.2⟩
 exact Ok.bv λ_ _=>Ok.bv λ_ _=>Ok.bv λ_ _=>Ok.it (λ_=>E 1 oM) λ_=>E 0 oM
theorem gR:sV okN where
 lit d v h:=rG h
 cell d r h:=Cm ⟨h.1,h.2.1,h.2.2.1,h.2.2.2.1⟩
 span d r x y h f hy:=⟨⟨λh=>by simp at h,λ_=>⟨h.1,by dsimp only;omega,by dsimp only;omega,by dsimp only;omega,h.2.2.1,by dsimp only;omega,by dsimp only;omega,by dsimp only;omega⟩⟩,.inr (.inr (.inl rfl))⟩
 un d k x F f:=l7 F f
 bin d op x y u f hy:=lu u f hy
 call d op l u hl G f:=by
  obtain⟨b,E,h⟩:=zv u (show l.length<=9 by omega)
  rw[pj u oM,G]at E
  cases E
  exact AV u oM (h O).1 (h O).2 f
variable {rec:(List Int)->Int->Option ((Nd) × (List Int))}{Q:Nat->Nd->Prop}
theorem rK(F:sV Q){d N:Nat}(hd:d<=1000) (hN:N<=1000){x0:List Int}(H:Fs N x0) (h:∀l,1<=d->Fs N l->Ok (rec l ((d:Int)-1)) λr=>Q d r.1/\Fs N r.2):Ok (bU rec x0 (d:Int)) λr=>Q (d+1) r.1/\Fs N r.2:=by
 unfold bU
 refine Ok.bv λJ3 e3=>?_
 have a1:∀s,0<=s.1/\s.1<=255->Fs N s.2->Ok (J3 s) λr=>Q (d+1) r.1/\Fs N r.2:=by
  intro s G hs
  rw[e3]
  have d16:Int.tdiv s.1 16=s.1 / 16:=Int.tdiv_eq_ediv_of_nonneg G.1
  have dv:∀{z:Int},z=IntKind.wrap .i64 (Int.tdiv s.1 16)->0<=z/\z<=15:=by
   intro z e
   have:=(au e).2 oM
   omega
  refine Ok.bv λb1 b2=>Ok.bv λJ7 e7=>?_
  have a6:∀q:Int,0<=q/\q<16->(6<=q->1<=d)->Ok (J7 q) λr=>Q (d+1) r.1/\Fs N r.2:=by
   intro q hq b3
   rw[e7]
   have J:6<=q->∀{z:Int}(l:List Int),z=IntKind.wrap .i64 ((d:Int)-1)->Fs N l->Ok (rec l z) λr=>Q d r.1/\Fs N r.2:=by
    intro g z l e hl
    have h1:=b3 g
    have e:=(au e).2 oM
    rw[e]
    exact h l h1 hl
   refine Ok.bv λz1 e1=>Ok.it (λc=>?_) λc1=>?_
   · refine Ok.bv λz2 e2=>Ok.bv λz3 E=>?_
     have h2:=dv e2
     have h3:=(au E).2 oM
     exact Ok.ob (bX oM) λv ev hv=>Ok.ob (Ok.sm (P:=λn=>n=(⟨1,0,v,r0,r0,[],[]⟩:Nd)) O) λn en hn=>Ok.sm ⟨by rw[hn];exact F.lit _ _ hv.1,hs⟩
   rw[e1,dF]at c1
   refine Ok.bv λz2 e2=>Ok.it (λc=>?_) λc2=>?_
   · refine Ok.ob bM λv1 _ b4=>Ok.ob (Ok.sm (P:=λn=>n=(⟨1,0,v1,r0,r0,[],[]⟩:Nd)) O) λn1 _ b5=>Ok.bv λ_ _=>Ok.bv λ_ _=>Ok.ob ba λv2 _ b6=>Ok.ob (Ok.sm (P:=λn=>n=(⟨1,0,v2,r0,r0,[],[]⟩:Nd)) O) λn2 _ b7=>Ok.bv λz3 E=>Ok.bv λz4 e4=>Ok.bv λz5 e5=>?_
     have h3:=dv E
     have h4:z4=z3 % 7:=by rw[e4];exact Int.tmod_eq_emod_of_nonneg h3.1
     have h5:=(au e5).2 oM
     refine Ok.ob (av oM) λv3 _ bb=>Ok.ob (Ok.sm (P:=λn=>n=(⟨1,0,v3,r0,r0,[],[]⟩:Nd)) O) λn3 _ bk=>Ok.ob (Ok.sm (P:=λn=>n=(⟨1,0,⟨0,0,[]⟩,r0,r0,[],[]⟩:Nd)) O) λn4 _ bq=>Ok.bv λz6 e6=>?_
     have h6:=(au e6).2 (by rw[Int.tdiv_eq_ediv_of_nonneg G.1];omega)
     rw[Int.tdiv_eq_ediv_of_nonneg G.1]at h6
     refine Ok.ck (by simp only[List.length_cons,List.length_nil];omega) (Ok.bv λn en=>Ok.sm ⟨?_,hs⟩)
     refine di (l:=[n1,n2,n3,n4]) (P:=Q (d+1)) ?_ en (by simp only[List.length_cons,List.length_nil];omega)
     intro x H
     simp only[List.mem_cons,List.not_mem_nil,or_false]at H
     rcases H with rfl|rfl|rfl|rfl
     ·rw[b5];exact F.lit _ _ b4.1
     ·rw[b7];exact F.lit _ _ b6
     ·rw[bk];exact F.lit _ _ bb.1
     ·rw[bq];exact F.lit _ _ DA
   rw[e2,dF]at c2
   refine Ok.bv λz3 E=>Ok.it (λc=>?_) λc3=>?_
   ·refine Ok.bv λz e=>Ok.ob wG λr _ J=>Ok.ob (Ok.sm (P:=λn=>n=(⟨2,0,⟨0,0,[]⟩,r,r0,[],[]⟩:Nd)) O) λn _ hn=>Ok.sm ⟨by rw[hn];exact F.cell _ _ J,hs⟩
   rw[E,dF]at c3
   refine Ok.bv λz4 e4=>Ok.it (λc=>?_) λc4=>?_
   · refine Ok.bv λz e=>Ok.ob wG λr _ J=>Ok.bv λz5 e5=>Ok.bv λz6 e6=>Ok.bv λz7 a7=>Ok.bv λz8 e8=>Ok.bv λz9 e9=>?_
     have h5:=C3 s.1
     rw[<-e5]at h5
     have h6:=(au e6).2 oM
     have h7:=(au a7).2 (by rw[Int.tdiv_eq_ediv_of_nonneg G.1];omega)
     rw[Int.tdiv_eq_ediv_of_nonneg G.1]at h7
     have h8:z8=z7 % 3:=by rw[e8];exact Int.tmod_eq_emod_of_nonneg oM
     have h9:=(au e9).2 oM
     refine Ok.ob (Ok.sm (P:=λn=>n=(⟨3,0,⟨0,0,[]⟩,r,⟨⟨r.c.s,z6,z9⟩,r.ac,r.ar⟩,[],[]⟩:Nd)) O) λn _ hn=>Ok.sm ⟨?_,hs⟩
     rw[hn]
     exact F.span _ _ _ _ J oM oM
   rw[e4,dF]at c4
   have g6:6<=q:=oM
   refine Ok.bv λz5 e5=>Ok.it (λc=>?_) λc5=>?_
   ·exact Ok.bv λz e=>Ok.ob (J g6 _ e hs) λy _ hy=>Ok.ob (Ok.sm (P:=λn=>n=(⟨5,0,⟨0,0,[]⟩,r0,r0,[],[y.1]⟩:Nd)) O) λn _ hn=>Ok.sm ⟨by rw[hn];exact F.un _ _ _ (.inl rfl) hy.1,hy.2⟩
   refine Ok.bv λz6 e6=>Ok.it (λc=>?_) λc6=>?_
   ·exact Ok.bv λz e=>Ok.ob (J g6 _ e hs) λy _ hy=>Ok.ob (Ok.sm (P:=λn=>n=(⟨6,0,⟨0,0,[]⟩,r0,r0,[],[y.1]⟩:Nd)) O) λn _ hn=>Ok.sm ⟨by rw[hn];exact F.un _ _ _ (.inr rfl) hy.1,hy.2⟩
   refine Ok.bv λz7 a7=>Ok.it (λc=>?_) λc7=>?_
   · refine Ok.bv λz e=>Ok.ob (J g6 _ e hs) λy _ hy=>Ok.bv λz8 e8=>Ok.bv λz9 e9=>Ok.bv λbs X=>Ok.ob (J g6 _ X hy.2) λy2 _ a8=>?_
     have h8:z8=s.1 % 11:=by rw[e8];exact Int.tmod_eq_emod_of_nonneg G.1
     have h9:=(au e9).2 oM
     exact Ok.ob (Ok.sm (P:=λn=>n=(⟨7,z9,⟨0,0,[]⟩,r0,r0,[],[y.1,y2.1]⟩:Nd)) O) λn _ hn=>Ok.sm ⟨by rw[hn];exact F.bin _ _ _ _ oM hy.1 a8.1,a8.2⟩
   refine Ok.bv λz8 e8=>Ok.bv λz9 e9=>Ok.bv λbs X=>Ok.bv λc8 ad=>?_
   have W:∀f:Int,1<=f/\f<=54->Ok (c8 f) λr=>Q (d+1) r.1/\Fs N r.2:=by
    intro f hf
    rw[ad]
    refine Ok.bv λcc af=>?_
    have ao:∀u,Fs N u.1->u.2.length<=3->fitB f u.2.length=true->(∀x∈u.2,Q d x)->Ok (cc u) λr=>Q (d+1) r.1/\Fs N r.2:=by
     intro u u1 u2 u3 u5
     rw[af]
     dsimp only
     rw[tX _ _ oM]
     exact Ok.os λn en=>Ok.sm ⟨by rw[en];exact F.call _ _ _ hf u2 u3 u5,u1⟩
    clear af
    obtain⟨k0,cx,b0⟩:=xq hf
    refine Ok.bv λcy ch=>Ok.lp (λu=>Fs N u.1/\u.2.length<=k0/\∀x∈u.2,Q d x) (λu=>9-u.2.length) ⟨hs,by simp,λx H=>by cases H⟩ (by simp) ?_
    rintro u ⟨u1,u2,u3⟩ next hn
    rw[ch]
    refine Ok.bv λy1 f1=>?_
    have cp:y1=true:=by rw[f1,dT];omega
    rw[cp,if_pos rfl,pj hf oM]
    refine Ok.os λy2 f2=>Ok.bv λy3 f3=>Ok.bv λy4 f4=>Ok.it (λc=>?_) λc=>?_
    · rw[f4,f3,f2]at c
      have da:u.2.length≠k0:=λe=>by rw[e,b0]at c;cases c
      refine Ok.bv λz e=>Ok.ob (J g6 _ e u1) λy _ hy=>Ok.ck (by simp only[List.length_cons,List.length_nil];omega) (Ok.bv λw Y=>?_)
      refine hn _ ⟨hy.2,by dsimp only;rw[Y];simp;omega,?_⟩ ?_
      · dsimp only
        rw[Y]
        exact eN u3 hy.1
      · dsimp only
        rw[Y]
        simp
        omega
    · rw[f4,f3,f2]at c
      exact ao _ u1 (by dsimp only;omega) (by simpa using c) u3
   clear ad
   have h8:=(au e8).2 (by rw[Int.tdiv_eq_ediv_of_nonneg G.1];omega)
   rw[Int.tdiv_eq_ediv_of_nonneg G.1]at h8
   have h9:z9=z8 % 54:=by rw[e9];exact Int.tmod_eq_emod_of_nonneg oM
   have dd:=(au X).2 oM
   refine Ok.bv λdj ct=>Ok.it (λc=>?_) λc=>W _ oM
   rw[ct,dT]at c
   refine Ok.ck oM (Ok.bv λy1 f1=>Ok.bv λy2 f2=>Ok.bv λy3 f3=>Ok.bv λy4 f4=>?_)
   have g1:=di hs.by_ f1 oM
   have g2:=(au f2).2 oM
   have g3:y3=y2 % 54:=by rw[f3];exact Int.tmod_eq_emod_of_nonneg oM
   have g4:=(au f4).2 oM
   exact W _ oM
  clear e7
  have dn:b1=s.1 % 16:=by rw[b2];exact Int.tmod_eq_emod_of_nonneg G.1
  refine Ok.bv λz1 e1=>Ok.bv λz2 e2=>Ok.bv λz3 E=>Ok.it (λc=>?_) λc=>?_
  · refine Ok.bv λz4 e4=>?_
    have h4:z4=s.1 % 6:=by rw[e4];exact Int.tmod_eq_emod_of_nonneg G.1
    exact a6 _ oM λg=>oM
  · rw[E,Bool.or_eq_false_iff,e1,dF]at c
    exact a6 _ oM λg=>oM
 clear e3
 refine Ok.bv λz1 e1=>Ok.it (λc=>?_) λc=>a1 _ (by simp) H
 rw[e1,dT]at c
 refine Ok.ck oM (Ok.bv λy1 f1=>Ok.bv λy2 f2=>Ok.ck oM (Ok.bv λw Y=>?_))
 have g1:=di H.by_ f1 oM
 have g2:=(au f2).2 oM
 refine a1 _ (by dsimp only;omega) ⟨?_,?_⟩
 · have:=ko x0 1 (x0.length:Int) oM
   have:=H.len
   dsimp only
   rw[Y]
   omega
 · dsimp only
   rw[Y]
   exact lZ H.by_ _ _
theorem oB(f:sV Q){N:Nat}(u:N<=1000):∀(d k:Nat) (x0:List Int),d<=1000->d<k->Fs N x0->Ok (b8 k x0 (d:Int)) λr=>Q (d+1) r.1/\Fs N r.2
 |_,0,_,_,E,_=>absurd E oM
 |0,k+1,x0,hd,E,F=>rK f hd u F λl G _=>absurd G oM
 |d+1,k+1,x0,hd,E,F=>rK f hd u F λl G hl=>by
  have:=oB f u d k l oM oM hl
  rw[show((d+1:Nat):Int)-1=(d:Int)by omega]
  exact this
end Go.Sp
end
section
namespace Go.Sp
open Go.Stp Go.ValP
variable {rec:TE}{ts us R:List Tk}{t:Tk}{s e D:Int}{g:List UInt8}{m:Nd}{k K w:Nat}{L l h:Int}{v c:Int}{cs:List Pt}
theorem CoreP.brk(H:CoreP w h cs m) (G:w<=1000) (F:1<=w):CoreP (w+1) 5 (sg [40]::(cs++[sg [41]])) m where
 hh:=by decide
 fst us f:=by
  obtain⟨t,u,rfl,F,E,J⟩:=As.cons f
  exact⟨t,u,O,λg=>by rw[E]at g;exact(nomatch g.2),λ_ g=>by rw[E]at g;exact nomatch g.2⟩
 p5 _ k e D us R K F E f W X:=by
  refine⟨K,oM,?_⟩
  rw[H.CX G oM oM oM f]
  rfl
 p4 h:=by cases h
 p3 h:=absurd h (by decide)
theorem CoreP.neg(H:CoreP w h cs m) (J:w<=1000) (E:1<=w):CoreP (w+1) 4 (sg [45]::br h 4 cs) ⟨5,0,⟨0,0,[]⟩,r0,r0,[],[m]⟩ where
 hh:=by decide
 fst us f:=by
  obtain⟨t,u,rfl,E,F,G⟩:=As.cons f
  exact⟨t,u,O,λg=>by rw[F]at g;exact(nomatch g.2),λg=>by cases g⟩
 p5 h:=by cases h
 p4 _ k e D us R E F f W:=by
  obtain⟨t,u,rfl,G,X,Y⟩:=As.cons f
  obtain⟨q,rfl⟩:∃q,k=q+1:=⟨k-1,oM⟩
  show aU (parse_ring q).1 (parse_ring q).2 (t::(u++R)) 0 e D=_
  exact unary_neg G X oM (H.Dz J oM oM oM Y W)
 p3 h:=absurd h (by decide)
theorem vG(H:CoreP w h cs m) (L:Int) (W:L<=5) (f:As us (br h L cs)):∃t r,us=t::r/\¬(t.k=4/\t.s=[41])/\(L=5->¬(t.k=4/\t.s=[45])):=by
 unfold br at f
 split at f
 · obtain⟨t,u,rfl,X,E,Y⟩:=As.cons f
   exact⟨t,u,O,λg=>by rw[E]at g;exact(nomatch g.2),λ_ g=>by rw[E]at g;exact nomatch g.2⟩
 · obtain⟨t,r,F,G,J⟩:=H.fst us f
   have:=H.hh
   exact⟨t,r,F,G,λg=>J oM⟩
theorem CoreP.Ej(H:CoreP w h cs m) (Y:w<=1000) (h1:1<=w):CoreP (w+1) 5 (br h 5 cs++[sg [37]]) ⟨6,0,⟨0,0,[]⟩,r0,r0,[],[m]⟩ where
 hh:=by decide
 fst us E:=by
  obtain⟨u,q,rfl,J,W⟩:=As.app E
  obtain⟨t,r,rfl,F,f⟩:=vG H 5 (Int.le_refl _) J
  exact⟨t,r++q,O,F,λ_=>f O⟩
 p5 _ k e D us R K h1 J E hF hK:=by
  obtain⟨u,q,rfl,W,F⟩:=As.app E
  obtain⟨t,r,rfl,f,X,h7⟩:=As.cons F
  rw[As.nil h7,List.append_assoc]
  have G:Fo 5 (t::R):=λt' r' er=>by cases er;exact⟨f,.inr (.inr (.inr ⟨O,X⟩))⟩
  obtain⟨K',a,b⟩:=H.pri (e:=e) (D:=D) (R:=t::R) (K:=K) Y (show 20*w<=k+5 by omega) oM oM W G oM
  obtain⟨z,rfl⟩:∃z,K'=z+1:=⟨K'-1,oM⟩
  refine⟨z,oM,?_⟩
  show obind (parse_parser_primary (parse_ring k).1 (u++(t::R)) 0 e D) _=_
  rw[b]
  show pcB e D (loopF (pcB e D) z) (t::R,m)=_
  unfold pcB
  rw[mR (g:=[37]) f X]
  rfl
 p4 h:=by cases h
 p3 h:=absurd h (by decide)
theorem CoreP.bin{o f Y:Int}{c1 c2:List Pt}{m1 m2:Nd}(ho:1<=o/\o<=11) (H1:CoreP w f c1 m1) (H2:CoreP w Y c2 m2) (hw:w<=1000) (a6:1<=w):CoreP (w+1) (lev o) (br f (lev o) c1++sg (tI o)::br Y (lev o+1) c2) ⟨7,o,⟨0,0,[]⟩,r0,r0,[],[m1,m2]⟩ where
 hh:=by have:=mN o;omega
 fst us W:=by
  obtain⟨u,q,rfl,a,b⟩:=As.app W
  have:=mN o
  obtain⟨t,r,rfl,h4,h5⟩:=vG H1 (lev o) oM a
  exact⟨t,r++q,O,h4,λg=>oM⟩
 p5 h:=by have:=mN o;omega
 p4 h:=by have:=mN o;omega
 p3 _ k e D us R K hk hD W hF hK:=by
  have hl:=mN o
  have a7:=H1.hh
  obtain⟨u1,q,rfl,H,a2⟩:=As.app W
  obtain⟨t,E,rfl,a3,J,a5⟩:=As.cons a2
  have J:t.s=tI o:=J
  have F:Fo (lev o+1) (t::(E++R)):=λt' r' er=>by cases er;exact⟨a3,.inr (.inr (.inl ⟨o,ho,J,oM⟩))⟩
  have hp:∃K',K<=K'+w/\(obind ((parse_ring k).1 (u1++(t::(E++R))) 0 e D (lev o+1)) λy=>loopF (exB (parse_ring k).1 e D (lev o)) K (y.2,y.1))=loopF (exB (parse_ring k).1 e D (lev o)) K' (t::(E++R),m1):=by
   by_cases he:f=lev o
   · have X:br f (lev o) c1=c1:=by unfold br;rw[if_neg oM]
     rw[X]at H
     have:=H1.p3 oM k e D u1 (t::(E++R)) K oM oM H (by rw[he];exact F) oM
     rw[he]at this
     exact this
   · have X:br f (lev o) c1=br f (lev o+1) c1:=by
      unfold br
      by_cases G:f<lev o
      ·rw[if_pos G,if_pos oM]
      ·rw[if_neg G,if_neg oM]
     rw[X]at H
     refine⟨K,oM,?_⟩
     rw[H1.par hw oM oM oM H oM F]
     rfl
  obtain⟨K',b1,b2⟩:=hp
  obtain⟨z,rfl⟩:∃z,K'=z+1:=⟨K'-1,oM⟩
  refine⟨z,oM,?_⟩
  rw[List.append_assoc,List.cons_append,b2]
  show exB (parse_ring k).1 e D (lev o) (loopF (exB (parse_ring k).1 e D (lev o)) z) (t::(E++R),m1)=_
  unfold exB
  rw[CS ho a3 J]
  show(if decide (o=0)=true then _ else obind ((parse_ring k).1 (E++R) 0 e D (lev o+1)) _)=_
  rw[if_neg (by rw[dT];omega),H2.par hw oM oM oM a5 oM hF]
  rfl
def jt:List (List Pt)->List Pt
 |[]=>[]
 |c::cs=>sg [44]::(c++jt cs)
def ja:List (List Pt)->List Pt
 |[]=>[]
 |c::cs=>c++jt cs
structure Ar (w:Nat) (a:Int × List Pt × Nd):Prop where
 p:CoreP w a.1 a.2.1 a.2.2
theorem CW{f:TE}(h:f ts 0 e (D+1) 0=some (m,R)) (u:0<=D/\D<=63):be ts 0 e D (λa b c e=>cw f a b c e)=some (m,R):=oa u (by
 show cw f ts 0 e (D+1)=_
 unfold cw
 rw[h]
 rfl)
theorem AH{op:Int}{q:Tk}{A:List (Int × List Pt × Nd)}(hn:eD t.s=some op) (ho:1<=op) (hA:∀a∈A,Ar w a) (hl:A.length<=9) (hf:cn op (A.length:Int)=some true) (ha:As us (ja (A.map (·.2.1))++[sg [41]])) (hw:w<=1000) (hk:20*w<=k) (ad:20<=k) (hD:0<=D/\D+2*w<=59) :
 cq (parse_ring k).1 (t::q::(us++R)) 0 e D t=some (⟨8,op,⟨0,0,[]⟩,r0,r0,[],A.map (·.2.2)⟩,R):=j4 (by
 unfold cq
 rw[hn]
 refine Ok.os λy F=>?_
 rw[F]
 clear F
 refine Ok.bv λz1 e1=>Ok.bv λz2 e2=>Ok.bv λz3 e3=>Ok.it (λc=>?_) λ_=>?_
 · rw[e3,bA,e1,dT]at c
   omega
 refine Ok.ck (by simp only[List.length_cons];omega) (Ok.bv λz4 e4=>Ok.bv λb6 af=>Ok.bv λB eB=>?_)
 have h4:z4=us++R:=by
  rw[e4]
  unfold fd
  rw[Int.toNat_natCast,List.take_length]
  rfl
 refine Ok.lp (λs=>∃H A2 u,A=H++A2/\s.1=u++R/\s.2=H.map (·.2.2)/\As u ((if H=[]then ja (A2.map (·.2.1))else jt (A2.map (·.2.1)))++[sg [41]])) (λs=>10-s.2.length) ⟨[],A,us,O,h4,O,by rw[if_pos rfl];exact ha⟩ (by dsimp only;omega) ?_
 rintro⟨s1,s2⟩ ⟨H,A2,u,rfl,i1,i2,G⟩ next hnx
 dsimp only at i1 i2 G hnx
 subst i1
 have a6:s2.length=H.length:=by rw[i2,List.length_map]
 rw[List.length_append]at hl hf
 rw[eB]
 cases A2 with
 |nil=>
  have G:As u [sg [41]]:=by
   have:(if H=[]then ja (([]:List (Int × List Pt × Nd)).map (·.2.1))else jt (([]:List (Int × List Pt × Nd)).map (·.2.1)))=[]:=by split<;>rfl
   rw[this]at G
   exact G
  obtain⟨W,r,rfl,X,Y,h3⟩:=As.cons G
  rw[As.nil h3]
  show Ok (obind (aN (W::R) 0 e D [41]) _) _
  rw[mR (g:=[41]) X Y]
  refine Ok.os λy F=>?_
  subst F
  refine Ok.bv λz5 e5=>Ok.it (λc=>by rw[e5]at c;cases c) λ_=>?_
  rw[af]
  refine Ok.bv λz6 e6=>Ok.bv λz7 e7=>Ok.bv λz8 e8=>Ok.it (λc=>?_) λ_=>?_
  · rw[e8,bA,e6,dT]at c
    omega
  have ao:cn op (s2.length:Int)=some true:=by rw[a6];simpa using hf
  rw[ao]
  refine Ok.os λy F=>Ok.bv λz9 e9=>Ok.it (λc=>by rw[e9,F]at c;cases c) λ_=>?_
  rw[tX op s2 oM]
  refine Ok.os λy F=>Ok.sm ?_
  rw[F,i2,List.append_nil]
 |cons a A2=>
  have hP:=(hA a (by simp)).p
  have b0:br a.1 0 a.2.1=a.2.1:=by unfold br;rw[if_neg (by have:=hP.hh;omega)]
  have a1:∃u0 J f,u=u0++J++f/\As J (br a.1 0 a.2.1)/\As f (jt (A2.map (·.2.1))++[sg [41]])/\(H=[]/\u0=[]\/H≠[]/\∃W,u0=[W]/\W.k=4/\W.s=[44]):=by
   rw[b0]
   by_cases E:H=[]
   · rw[if_pos E]at G
     have G:As u (a.2.1++(jt (A2.map (·.2.1))++[sg [41]])):=by
      rw[<-List.append_assoc];exact G
     obtain⟨J,f,e1,e2,e3⟩:=As.app G
     exact⟨[],J,f,by rw[e1];rfl,e2,e3,.inl ⟨E,rfl⟩⟩
   · rw[if_neg E]at G
     have G:As u (sg [44]::(a.2.1++(jt (A2.map (·.2.1))++[sg [41]]))):=by
      rw[<-List.append_assoc];exact G
     obtain⟨W,r,rfl,X,Y,h3⟩:=As.cons G
     obtain⟨J,f,rfl,e2,e3⟩:=As.app h3
     exact⟨[W],J,f,O,e2,e3,.inr ⟨E,W,O,X,Y⟩⟩
  obtain⟨u0,J,f,rfl,g1,g2,g3⟩:=a1
  have hF:Fo 0 (f++R):=by
   cases A2 with
   |nil=>
    obtain⟨W,r,rfl,X,Y,h3⟩:=As.cons (show As f (sg [41]::[])from g2)
    exact λt r er=>by cases er;exact⟨X,.inl Y⟩
   |cons b A3=>
    obtain⟨W,r,rfl,X,Y,h3⟩:=As.cons (show As f (sg [44]::((b.2.1++jt (A3.map (·.2.1)))++[sg [41]]))from g2)
    exact λt r er=>by cases er;exact⟨X,.inr (.inl Y)⟩
  have a7:=hP.par (e:=e) (D:=D+1) (L:=0) hw hk ad oM g1 oM hF
  have b1:=CW a7 (show 0<=D/\D<=63 by omega)
  obtain⟨t1,r1,b2,g4,_⟩:=vG hP 0 (by decide) g1
  have b3:aN (u0++J++f++R) 0 e D [41]=some (false,u0++J++f++R):=tR λW r' er=>by
   rcases g3 with⟨_,rfl⟩|⟨_,tc,rfl,c1,c2⟩
   · rw[b2]at er
     cases er
     exact g4
   · cases er
     rw[c2]
     exact λg=>nomatch g.2
  show Ok (obind (aN (u0++J++f++R) 0 e D [41]) _) _
  rw[b3]
  refine Ok.os λy F=>?_
  subst F
  have a8:∀z:List Nd,z=s2++[a.2.2]->Ok (next (f++R,z)) λv=>v=(⟨8,op,⟨0,0,[]⟩,r0,r0,[],(H++a::A2).map (·.2.2)⟩,R):=λz hz=>by
   subst hz
   refine hnx _ ⟨H++[a],A2,f,by simp,rfl,by rw[i2];simp,?_⟩ (by dsimp only;simp;simp at hl;omega)
   rw[if_neg (by simp)]
   exact g2
  refine Ok.bv λz5 e5=>Ok.it (λ_=>Ok.bv λb4 b5=>Ok.bv λz6 e6=>?_) λc=>by rw[e5]at c;cases c
  have hJ:∀x,x=J++(f++R)->Ok (b4 x) λv=>v=(⟨8,op,⟨0,0,[]⟩,r0,r0,[],(H++a::A2).map (·.2.2)⟩,R):=λx hx=>by
   subst hx
   rw[b5]
   dsimp only
   rw[b1]
   refine Ok.os λy F=>?_
   subst F
   refine Ok.ck (by simp only[List.length_cons,List.length_nil];omega) (Ok.bv λz7 e7=>a8 _ e7)
  rcases g3 with⟨E,rfl⟩|⟨E,tc,rfl,c1,c2⟩
  · refine Ok.it (λc=>?_) λ_=>hJ _ (by simp)
    rw[e6,dT,i2,E]at c
    simp at c
  · refine Ok.it (λ_=>?_) λc=>?_
    · show Ok (obind (ce (tc::(J++f++R)) 0 e D [44]) _) _
      rw[wv (g:=[44]) c1 c2]
      exact Ok.os λy F=>by rw[F];exact hJ _ (by simp)
    · rw[e6,dF,a6]at c
      exact absurd (List.length_eq_zero_iff.1 oM) E)
end Go.Sp
end
section
namespace Go.Sp
open Go.Stp Go.ValP
def Df(t:List UInt8):Bool:=(match t with
 |b::_=>!isDg b.toNat&&!(b == 33)
 |[]=>false)&&t.all λb=>isWd b.toNat
def DR(s c r x:Nat) (ac ar:Bool):Bool:=match cj ⟨⟨s,c,r⟩,ac,ar⟩ x with
 |some t=>Df t&&Nat.ble t.length 10&&match cG t x with
  |some (q,b)=>b&&decide (q.c.s=s)&&decide (q.c.c=c)&&decide (q.c.r=r)&&(q.ac == ac)&&(q.ar == ar)
  |none=>false
 |none=>false
theorem zV:((List.range 2).all λs=>(List.range 5).all λc=>(List.range 6).all λr=>(List.range 2).all λx=>(x == 1&&s == 0)||[false,true].all λac=>[false,true].all λar=>DR s c r x ac ar)=true:=by decide +kernel
structure Wd (t:List UInt8):Prop where
 hd:∃b r,t=b::r/\isDg b.toNat=false/\b≠33
 all:∀b∈t,isWd b.toNat=true
theorem py{t:List UInt8}(h:Df t=true):Wd t:=by
 unfold Df at h
 rw[bA]at h
 refine⟨?_,λb f=>List.all_eq_true.1 h.2 b f⟩
 cases t with
 |nil=>exact nomatch h.1
 |cons b r=>
  have:=h.1
  simp only[bA,Bool.not_eq_eq_eq_not,Bool.not_true,beq_eq_false_iff_ne]at this
  exact⟨b,r,O,this.1,this.2⟩
theorem uU{r:Rf}{x:Int}(hs:0<=r.c.s/\r.c.s<=1) (u:0<=r.c.c/\r.c.c<=4) (E:0<=r.c.r/\r.c.r<=5) (F:x=0\/x=r.c.s):∃t,cj r x=some t/\Wd t/\t.length<=10/\cG t x=some (r,true):=by
 obtain⟨⟨s,c,w⟩,ac,ar⟩:=r
 dsimp only at hs u E F
 obtain⟨s,rfl⟩:=Int.eq_ofNat_of_zero_le hs.1
 obtain⟨c,rfl⟩:=Int.eq_ofNat_of_zero_le u.1
 obtain⟨w,rfl⟩:=Int.eq_ofNat_of_zero_le E.1
 obtain⟨y,rfl⟩:∃y:Nat,x=(y:Int):=Int.eq_ofNat_of_zero_le oM
 have h:=zV
 simp only[List.all_eq_true,List.mem_range,Bool.or_eq_true,bA,beq_iff_eq]at h
 have h:=h s oM c oM w oM y oM
 rcases h with h|h
 ·omega
 have h:=h ac (by cases ac<;>simp) ar (by cases ar<;>simp)
 unfold DR at h
 split at h
 · rename_i t G
   rw[bA,bA]at h
   refine⟨t,G,py h.1.1,Nat.le_of_ble_eq_true h.1.2,?_⟩
   have f:=h.2
   split at f
   · rename_i q b H
     obtain⟨⟨qs,J,W⟩,X,Y⟩:=q
     simp only[bA,dT,beq_iff_eq]at f
     obtain⟨⟨⟨⟨⟨rfl,rfl⟩,rfl⟩,rfl⟩,rfl⟩,rfl⟩:=f
     exact H
   ·cases f
 ·cases h
end Go.Sp
end
section
namespace Go.ValP
def ot(l:List Int) (i:Nat):List Int:=(List.range l.length).map λm=>if m<i\/l.length<=m+i then l.getD (l.length-1-m) 0 else l.getD m 0
theorem ll(l:List Int) (i:Nat):(ot l i).length=l.length:=by simp[ot]
theorem oe(l:List Int) (i m:Nat) (h:m<l.length):(ot l i)[m]?=some (if m<i\/l.length<=m+i then l.getD (l.length-1-m) 0 else l.getD m 0):=by
 simp[ot,h]
theorem ud(l:List Int) (m:Nat) (h:m<l.length):l[m]?=some (l.getD m 0):=by
 simp[List.getD,h]
theorem A8(l:List Int):ot l 0=l:=by
 apply List.ext_getElem?
 intro m
 by_cases h:m<l.length
 ·rw[oe l 0 m h,ud l m h,if_neg (by omega)]
 ·rw[List.getElem?_eq_none (by rw[ll];omega),List.getElem?_eq_none (by omega)]
theorem Ab(l:List Int) (i j:Nat) (F:i<j) (J:j+i+1=l.length) :
 ((ot l i).set i ((ot l i).getD j 0)).set j ((ot l i).getD i 0)=ot l (i+1):=by
 have G:(ot l i).getD j 0=l.getD j 0:=by
  rw[List.getD,oe l i j (by omega),if_neg (by omega)]
  rfl
 have H:(ot l i).getD i 0=l.getD i 0:=by
  rw[List.getD,oe l i i (by omega),if_neg (by omega)]
  rfl
 rw[G,H]
 apply List.ext_getElem?
 intro m
 by_cases h:m<l.length
 · rw[oe l (i+1) m h]
   by_cases f:m=j
   · subst f
     rw[List.getElem?_set_self (by rw[List.length_set,ll];omega),if_pos (by omega)]
     rw[show l.length-1-m=i by omega]
   · rw[List.getElem?_set_ne (λe=>f e.symm)]
     by_cases u:m=i
     · subst u
       rw[List.getElem?_set_self (by rw[ll];omega),if_pos (by omega)]
       rw[show l.length-1-m=j by omega]
     · rw[List.getElem?_set_ne (λe=>u e.symm),oe l i m h]
       by_cases E:m<i\/l.length<=m+i
       ·rw[if_pos E,if_pos (by omega)]
       ·rw[if_neg E,if_neg (by omega)]
 ·rw[List.getElem?_eq_none (by simp only[List.length_set,ll];omega),List.getElem?_eq_none (by rw[ll];omega)]
theorem Dk(l:List Int) (i:Nat) (h:l.length<=2*i+1):ot l i=l.reverse:=by
 apply List.ext_getElem?
 intro m
 by_cases f:m<l.length
 · rw[oe l i m f,List.getElem?_reverse f,ud l (l.length-1-m) (by omega)]
   by_cases u:m<i\/l.length<=m+i
   ·rw[if_pos u]
   ·rw[if_neg u,show l.length-1-m=m by omega]
 ·rw[List.getElem?_eq_none (by rw[ll];omega),List.getElem?_eq_none (by rw[List.length_reverse];omega)]
end Go.ValP
end
section
namespace Go.Sp
open Go.Stp Go.ValP
def rv(o:List Int):List UInt8:=(qv o).reverse
theorem kM(o:List Int) (c:Int):rv (o++[c])=UInt8.ofNat c.toNat::rv o:=by simp[rv,qv]
theorem pM{d:Nat}{r:List UInt8}{n p g:Int}(hd:d<10) (hp:p≠6):pd (UInt8.ofNat (48+(d:Int)).toNat::r) (n,p,g)=pd r (n*10+d,(if 0<=p then p+1 else p),g+1):=by
 have e:(UInt8.ofNat (48+(d:Int)).toNat).toNat=48+d:=by
  rw[show(48+(d:Int)).toNat=48+d by omega]
  simp
  omega
 rw[pd,if_neg (λq=>by
  have:=congrArg UInt8.toNat q.1
  rw[e]at this
  have f:(46:UInt8).toNat=46:=rfl
  omega),if_pos ⟨oM,oM,hp⟩,e]
 have:n*10+(((48+d:Nat):Int)-48)=n*10+d:=oM
 rw[this]
theorem C6{r:List UInt8}{n g:Int}:pd (UInt8.ofNat (46:Int).toNat::r) (n,-1,g)=pd r (n,0,g):=by
 rw[pd,if_pos ⟨rfl,(by decide:(-1:Int)<0)⟩]
theorem uM(a b:Nat):(10:Nat) ^ (a+b)=10 ^ a*10 ^ b:=Nat.pow_add 10 a b
def tb(N k:Nat) (tail:Bool) (out:List Int):Prop:=
 (k<=6/\tail=true/\out=[]/\N % 10 ^ k=0)\/
 (k<=6/\tail=false/\∃m q,out.length=m/\1<=m/\m<=k/\N % 10 ^ k=q*10 ^ (k-m)/\∀(n p g:Int),0<=p->p+m<=6->pd (rv out) (n,p,g)=some (n*((10 ^ m:Nat):Int)+q,p+m,g+m))\/
 (7<=k/\tail=false/\∀(n g:Int),0<=g->∃u f E,pd (rv out) (n,-1,g)=some (u,f,E)/\f≠0/\0<E/\u*((10 ^ (6-(max f 0).toNat):Nat):Int)=(n*((10 ^ (k-6):Nat):Int)+((N / 10 ^ 6 % 10 ^ (k-6):Nat):Int))*1000000+((N % 10 ^ 6:Nat):Int))
def nJ(N k:Nat):Nat:=N / 10 ^ k % 10
theorem rX(N k:Nat):N % 10 ^ (k+1)=N % 10 ^ k+10 ^ k*nJ N k:=by
 rw[Nat.pow_succ,Nat.mod_mul]
 rfl
theorem Cz(N k:Nat):N / 10 ^ k / 10=N / 10 ^ (k+1):=by rw[Nat.div_div_eq_div_mul,Nat.pow_succ]
theorem tb.zero{N k:Nat}(h:tb N k true []) (f:k<6) (hd:nJ N k=0):tb N (k+1) true []:=by
 rcases h with⟨_,_,_,h⟩|⟨_,h,_⟩|⟨_,h,_⟩
 ·exact .inl ⟨f,O,O,by rw[rX,h,hd];rfl⟩
 ·cases h
 ·cases h
theorem tb.low{N k:Nat}{tail:Bool}{out:List Int}(h:tb N k tail out) (f:k<6):tb N (k+1) false (out++[48+(nJ N k:Int)]):=by
 have hd:nJ N k<10:=Nat.mod_lt _ (by decide)
 rcases h with⟨_,_,rfl,h⟩|⟨_,_,m,q,u,W,X,E,F⟩|⟨h,_⟩
 · refine .inr (.inl ⟨f,O,1,nJ N k,O,Nat.le_refl _,oM,?_,λn p g hp G=>?_⟩)
   ·rw[rX,h,Nat.zero_add,Nat.add_sub_cancel,Nat.mul_comm]
   · rw[kM,pM hd oM,if_pos hp]
     rfl
 · refine .inr (.inl ⟨f,O,m+1,q+nJ N k*10 ^ m,by rw[List.length_append,u];rfl,oM,oM,?_,λn p g hp G=>?_⟩)
   ·rw[rX,E,show k+1-(m+1)=k-m by omega,Nat.add_mul,Nat.mul_assoc,<- uM,show m+(k-m)=k by omega,Nat.mul_comm (10 ^ k)]
   · rw[kM,pM hd oM,if_pos hp,F _ _ _ oM oM]
     have:(n*10+(nJ N k:Int))*((10 ^ m:Nat):Int)+(q:Int)=n*((10 ^ (m+1):Nat):Int)+((q+nJ N k*10 ^ m:Nat):Int):=by
      rw[Nat.pow_succ]
      push_cast
      rw[Int.add_mul,Int.mul_assoc,Int.mul_comm 10]
      omega
     rw[this]
     have H:p+1+(m:Int)=p+((m+1:Nat):Int):=oM
     have J:g+1+(m:Int)=g+((m+1:Nat):Int):=oM
     rw[H,J]
 ·omega
theorem tb.Fg{N:Nat}{tail:Bool}{out:List Int}(h:tb N 6 tail out):tb N 7 false ((if tail=false then out++[46]else out)++[48+(nJ N 6:Int)]):=by
 have hd:nJ N 6<10:=Nat.mod_lt _ (by decide)
 have f:N / 10 ^ 6 % 10 ^ (7-6)=nJ N 6:=rfl
 refine .inr (.inr ⟨Nat.le_refl _,O,λn g F=>?_⟩)
 rw[f]
 rcases h with⟨_,rfl,rfl,h⟩|⟨_,rfl,m,q,G,H,J,u,E⟩|⟨h,_⟩
 · rw[if_neg (by decide)]
   refine⟨n*10+nJ N 6,-1,g+1,?_,by decide,oM,?_⟩
   · rw[kM,pM hd (by decide)]
     rfl
   · rw[h]
     show(n*10+(nJ N 6:Int))*((1000000:Nat):Int)=(n*((10:Nat):Int)+(nJ N 6:Int))*1000000+((0:Nat):Int)
     omega
 · rw[if_pos rfl]
   refine⟨(n*10+nJ N 6)*((10 ^ m:Nat):Int)+q,(m:Int),g+1+m,?_,oM,oM,?_⟩
   ·rw[kM,kM,pM hd (by decide),if_neg (by decide),C6,E _ _ _ (by decide) oM,Int.zero_add]
   · have e:(max (m:Int) 0).toNat=m:=oM
     rw[e,u,Int.add_mul,Int.mul_assoc,<- Int.natCast_mul,<- uM,show m+(6-m)=6 by omega,Int.natCast_mul]
     rfl
 ·omega
theorem AO(P A d:Nat) (n:Int):(n*10+(d:Int))*(P:Int)+(A:Int)=n*((P*10:Nat):Int)+((A+P*d:Nat):Int):=by
 push_cast
 rw[Int.add_mul,Int.mul_assoc,Int.mul_comm 10,Int.mul_comm (d:Int)]
 omega
theorem tb.high{N k:Nat}{tail:Bool}{out:List Int}(h:tb N k tail out) (hk:7<=k):tb N (k+1) false (out++[48+(nJ N k:Int)]):=by
 have hd:nJ N k<10:=Nat.mod_lt _ (by decide)
 rcases h with⟨h,_⟩|⟨h,_⟩|⟨_,_,h⟩
 ·omega
 ·omega
 refine .inr (.inr ⟨oM,O,λn g hg=>?_⟩)
 obtain⟨f,u,E,F,G,H,J⟩:=h (n*10+nJ N k) (g+1) oM
 refine⟨f,u,E,?_,G,H,?_⟩
 · rw[kM,pM hd (by decide),if_neg (by decide)]
   exact F
 · have W:k+1-6=(k-6)+1:=oM
   have X:nJ (N / 10 ^ 6) (k-6)=nJ N k:=by
    unfold nJ
    rw[Nat.div_div_eq_div_mul,<- uM,show 6+(k-6)=k by omega]
   have Y:(10:Nat) ^ (k-6+1)=10 ^ (k-6)*10:=Nat.pow_succ _ _
   rw[J,W,rX (N / 10 ^ 6) (k-6),X,Y,AO]
theorem tb.end{N k:Nat}{tail:Bool}{out:List Int}(h:tb N k tail out) (H:7<=k) (u:N / 10 ^ k=0) (J:N<=9223372036854775807) (hl:out.length<=1000):cv (rv out)=some ((N:Int),true):=by
 rcases h with⟨h,_⟩|⟨h,_⟩|⟨_,_,h⟩
 ·omega
 ·omega
 obtain⟨W,X,Y,E,F,h3,f⟩:=h 0 0 (Int.le_refl _)
 have e:N / 10 ^ 6 % 10 ^ (k-6)=N / 10 ^ 6:=by
  refine Nat.mod_eq_of_lt ?_
  rw[<-Nat.div_eq_zero_iff_lt (Nat.pow_pos (by decide)),Nat.div_div_eq_div_mul,<- uM,show 6+(k-6)=k by omega]
  exact u
 rw[e,Int.zero_mul,Int.zero_add]at f
 refine yE E oM F (f.trans ?_) oM (by simp[rv,qv];exact hl)
 have:=Nat.div_add_mod N (10 ^ 6)
 have G:(10 ^ 6:Nat)=1000000:=rfl
 rw[G]at this⊢
 omega
def zO(o:List Int):Prop:=∀z∈o,46<=z/\z<=57/\z≠47
theorem zO.snoc{o:List Int}{c:Int}(h:zO o) (f:46<=c/\c<=57/\c≠47):zO (o++[c]):=λz hz=>by
 rcases List.mem_append.1 hz with g|g
 ·exact h z g
 ·rw[List.mem_singleton.1 g];exact f
theorem zO.bytes{o:List Int}(h:zO o):bS o=true:=by
 unfold bS
 rw[List.all_eq_true]
 intro z hz
 have:=h z hz
 rw[dT]
 omega
theorem zO.E0{o:List Int}(h:zO o):∀b∈rv o,isDg b.toNat=true:=λb f=>by
 unfold rv qv at f
 rw[List.mem_reverse,List.mem_map]at f
 obtain⟨z,hz,rfl⟩:=f
 have hz:=h z hz
 have e:(UInt8.ofNat z.toNat).toNat=z.toNat:=by simp;omega
 rw[e]
 simp[isDg]
 omega
theorem Ak(o:List Int):qv o.reverse=rv o:=by simp[qv,rv]
theorem yH{x:Int}(hx:-9223372036854775807<=x/\x<=9223372036854775807):∃d:List UInt8,d≠[]/\(∀b∈d,isDg b.toNat=true)/\cv d=some (if x<0 then -x else x,true)/\d.length<=40/\cM x=some (if x<0 then 45::d else d):=by
 obtain⟨N,hN⟩:∃N:Nat,(if x<0 then -x else x)=(N:Int):=⟨(if x<0 then -x else x).toNat,by split<;>omega⟩
 have b1:N<=9223372036854775807:=by split at hN<;>omega
 have ad:f_ x=some (N:Int):=by
  have W:Ok (f_ x) λv=>v=(N:Int):=by
   unfold f_
   refine Ok.bv λz e=>Ok.it (λc=>Ok.bv λz1 e1=>Ok.bv λz2 e2=>Ok.sm ?_) λc=>Ok.bv λz1 e1=>Ok.sm ?_
   · rw[e,dT]at c
     rw[if_pos c]at hN
     simp[IntKind.wrap,IntKind.bits,IntKind.signed]at e1 e2
     omega
   · rw[e,dF]at c
     rw[if_neg c]at hN
     rw[(j0 e1).2 oM]
     exact hN
  obtain⟨v,X,rfl⟩:=W
  exact X
 have W:Ok (cM x) λv=>∃d:List UInt8,d≠[]/\(∀b∈d,isDg b.toNat=true)/\cv d=some ((N:Int),true)/\d.length<=40/\v=if x<0 then 45::d else d:=by
  unfold cM
  rw[ad]
  refine Ok.os λy ey=>Ok.bv λJ4 e4=>Ok.bv λB eB=>?_
  subst ey
  refine Ok.lp (λs=>∃k:Nat,s.2.2.1=(k:Int)/\s.1=((N / 10 ^ k:Nat):Int)/\tb N k s.2.1 s.2.2.2/\zO s.2.2.2/\k<=20/\s.2.2.2.length<=2*k/\(7<=k->s.2.2.2≠[])) (λs=>21-s.2.2.1.toNat) ⟨0,O,by simp,.inl ⟨by decide,rfl,rfl,Nat.mod_one _⟩,λz hz=>(nomatch hz),by decide,by simp,λh=>oM⟩ (by dsimp only;omega) ?_
  rintro⟨sn,st,sk,so⟩ ⟨k,rfl,h1,u,F,cx,b4,Y⟩ next hn
  dsimp only at h1 u F b4 Y hn
  subst h1
  rw[eB]
  refine Ok.bv λz1 f1=>Ok.bv λz2 f2=>Ok.bv λz3 f3=>Ok.it (λc=>?_) λc=>?_
  · have cp:k<20:=by
     rcases Nat.lt_or_ge k 20 with g|g
     ·exact g
     · obtain rfl:k=20:=oM
       have:N / 10 ^ 20=0:=Nat.div_eq_of_lt oM
       rw[f3,f1,f2,this]at c
       simp at c
    refine Ok.bv λb5 b7=>Ok.bv λbb bk=>?_
    have bq:((N / 10 ^ k:Nat):Int).tmod 10=(nJ N k:Int):=by
     rw[Int.tmod_eq_emod_of_nonneg (Int.natCast_nonneg _)]
     unfold nJ
     omega
    have bs:((N / 10 ^ k:Nat):Int).tdiv 10=((N / 10 ^ (k+1):Nat):Int):=by
     rw[Int.tdiv_eq_ediv_of_nonneg (Int.natCast_nonneg _),<- Cz]
     omega
    have ct:nJ N k<10:=Nat.mod_lt _ (by decide)
    have hq:N / 10 ^ (k+1)<=N:=Nat.div_le_self _ _
    have c6:(0:Int)<=((N / 10 ^ (k+1):Nat):Int):=Int.natCast_nonneg _
    have c7:((N / 10 ^ (k+1):Nat):Int)<=9223372036854775807:=oM
    have G:∀(t:Bool) (o:List Int),tb N (k+1) t o->zO o->o.length<=2*(k+1)->(7<=k+1->o≠[])->Ok (b5 (((N / 10 ^ (k+1):Nat):Int),t,o)) λv=>∃d:List UInt8,d≠[]/\(∀b∈d,isDg b.toNat=true)/\cv d=some ((N:Int),true)/\d.length<=40/\v=if x<0 then 45::d else d:=by
     intro t o g1 g2 g3 g4
     rw[b7]
     refine Ok.bv λz e=>?_
     have e':=(au e).2 (by dsimp only;omega)
     dsimp only at e'
     exact hn _ ⟨k+1,by dsimp only;rw[e'];rfl,rfl,g1,g2,oM,g3,g4⟩ (by dsimp only;omega)
    have E:∀(t:Bool) (o:List Int),o.length<=2*k+1->zO o->(t=true->nJ N k=0->tb N (k+1) true o/\k<6)->((t=true->nJ N k≠0)->tb N (k+1) false (o++[48+(nJ N k:Int)]))->Ok (bb (t,o)) λv=>∃d:List UInt8,d≠[]/\(∀b∈d,isDg b.toNat=true)/\cv d=some ((N:Int),true)/\d.length<=40/\v=if x<0 then 45::d else d:=by
     intro t o g0 g1 g2 g3
     rw[bk]
     dsimp only
     rw[bq,bs]
     refine Ok.bv λw1 a1=>Ok.bv λw2 a2=>Ok.bv λw3 a3=>Ok.bv λw4 a4=>Ok.bv λw5 a5=>?_
     have b2:=(Aa a2).2 oM
     have b3:=(j0 a3).2 ⟨c6,Int.le_trans c7 (by decide)⟩
     rw[b3]
     refine Ok.it (λc=>?_) λc=>?_
     · rw[a5,bA,a4,dT,b2,a1]at c
       obtain⟨u1,u2⟩:=g2 c.1 oM
       rw[c.1]
       exact G _ _ u1 g1 oM (λh=>oM)
     · refine Ok.bv λw6 a6=>?_
       have b6:=(Aa a6).2 oM
       refine Ok.ck (by simp only[List.length_cons,List.length_nil];omega) (Ok.bv λw7 a7=>?_)
       have c8:w7=o++[48+(nJ N k:Int)]:=by rw[a7,b6,b2,a1]
       rw[c8]
       refine G _ _ (g3 λH hz=>?_) (g1.snoc oM) (by simp;omega) (λ_=>by simp)
       rw[a5,H,a4,b2,a1,hz]at c
       cases c
    refine Ok.bv λz4 f4=>Ok.it (λc4=>?_) λc4=>?_
    · rw[f4,dT]at c4
      dsimp only at c4
      obtain rfl:k=6:=oM
      have h7:=u.Fg
      refine Ok.bv λz5 f5=>Ok.it (λc5=>Ok.ck (by simp only[List.length_cons,List.length_nil];omega) (Ok.bv λz6 f6=>?_)) λc5=>?_
      · have H:st=false:=by rw[f5]at c5;simpa using c5
        rw[if_pos H]at h7
        rw[f6]
        exact E _ _ (by rw[List.length_append];dsimp only[List.length_cons,List.length_nil];omega) (F.snoc oM) (λg=>by cases g) λ_=>h7
      · have H:st=true:=by rw[f5]at c5;simpa using c5
        rw[if_neg (by rw[H];decide)]at h7
        exact E _ _ (by dsimp only;omega) F (λg=>by cases g) λ_=>h7
    · rw[f4,dF]at c4
      dsimp only at c4
      refine E _ _ (by dsimp only;omega) F (λH hz=>?_) λH=>?_
      · have f:st=true:=H
        have af:k<6:=by
         rcases u with g|⟨_,g,_⟩|⟨_,g,_⟩
         ·omega
         ·rw[f]at g;cases g
         ·rw[f]at g;cases g
        have ho:so=[]:=by
         rcases u with g|⟨_,g,_⟩|⟨_,g,_⟩
         ·exact g.2.2.1
         ·rw[f]at g;cases g
         ·rw[f]at g;cases g
        subst ho
        rw[f]at u
        exact⟨u.zero af hz,af⟩
      · rcases Nat.lt_or_ge k 6 with g|g
        ·exact u.low g
        ·exact u.high oM
  · rw[f3,Bool.or_eq_false_iff,f1,f2,dF,dF]at c
    dsimp only at c
    have a8:7<=k:=oM
    have hz:N / 10 ^ k=0:=by
     have:(0:Int)<=((N / 10 ^ k:Nat):Int):=Int.natCast_nonneg _
     exact Int.ofNat_inj.1 (Int.le_antisymm (Int.not_lt.1 c.2) this)
    have J:=u.end a8 hz b1 oM
    rw[e4]
    refine Ok.bv λJ7 e7=>?_
    have ao:∀o:List Int,bS o=true->o.length<=50->Ok (J7 o) λv=>v=rv o:=by
     intro o g1 g2
     rw[e7]
     refine Ok.bv λcy cc=>Ok.bv λn en=>Ok.bv λB eB=>?_
     have da:=(au en).2 oM
     refine Ok.lp (λs=>∃i:Nat,s.1=(i:Int)/\s.2.1=(o.length:Int)-1-i/\s.2.2=ot o i/\i<=o.length) (λs=>60-s.1.toNat) ⟨0,O,by dsimp only;omega,(A8 o).symm,Nat.zero_le _⟩ (by dsimp only;omega) ?_
     rintro⟨si,sj,so⟩ ⟨i,i1,i2,i3,i4⟩ ch b0
     dsimp only at i1 i2 i3 b0
     subst i1 i2 i3
     rw[eB]
     refine Ok.bv λz e=>Ok.it (λc=>?_) λc=>?_
     · rw[e,dT]at c
       dsimp only at c
       refine Ok.ck (by rw[ll];dsimp only;omega) (Ok.ck (by rw[ll];dsimp only;omega) (Ok.bv λr er=>Ok.bv λz1 f1=>Ok.bv λz2 f2=>?_))
       have h1:=(au f1).2 (by dsimp only;omega)
       have u:=(au f2).2 (by dsimp only;omega)
       dsimp only at h1 u er
       obtain⟨j,hj⟩:∃j:Nat,(o.length:Int)-1-i=(j:Int):=⟨o.length-1-i,oM⟩
       rw[hj]at er
       have f:=Ab o i j oM oM
       refine b0 _ ⟨i+1,by dsimp only;rw[h1];rfl,by dsimp only;omega,?_,oM⟩ (by dsimp only;omega)
       dsimp only
       rw[er]
       exact f
     · rw[e,dF]at c
       dsimp only at c
       rw[cc,Dk o i oM]
       refine Ok.ck ?_ (Ok.bv λz e=>Ok.sm (by rw[e,Ak]))
       unfold bS at g1⊢
       rw[List.all_reverse]
       exact g1
    dsimp only
    refine Ok.bv λz e=>Ok.it (λc=>Ok.ck (by simp only[List.length_cons,List.length_nil];omega) (Ok.bv λz1 f1=>?_)) λc=>?_
    · rw[e,dT]at c
      refine(ao _ (by rw[f1];exact pi F.bytes (by decide)) (by rw[f1];simp;omega)).mono λv X=>⟨rv so,?_,F.E0,J,?_,?_⟩
      · have:=Y a8
        simpa[rv,qv]using this
      ·simp[rv,qv];omega
      · rw[X,f1,kM,if_pos c]
        rfl
    · rw[e,dF]at c
      refine(ao _ F.bytes oM).mono λv X=>⟨rv so,?_,F.E0,J,?_,?_⟩
      · have:=Y a8
        simpa[rv,qv]using this
      ·simp[rv,qv];omega
      ·rw[X,if_neg c]
 obtain⟨v,X,d,d1,d2,d3,d4,rfl⟩:=W
 exact⟨d,d1,d2,by rw[hN];exact d3,d4,X⟩
variable {us R:List Tk}{t:Tk}{m:Nd}{k K w d:Nat}{L l h:Int}{cs ps qs:List Pt}{Q:List UInt8}
theorem re{P:Nd × List Tk->Prop}{rec:TE}{e D:Int}{q:Tk}(f:q.k=4) (hs:q.s=[40]) (h:Ok (cq rec (t::q::R) 0 e D t) P):Ok (cf rec (t::q::R) 0 e D t) P:=by
 have hl:(1:Int)<((t::q::R).length:Int):=by simp only[List.length_cons];omega
 have u:gel (t::q::R) (1:Int)=q:=rfl
 unfold cf
 refine Ok.bv λY E=>Ok.ck (λ_=>⟨by decide,hl⟩) (Ok.bv λz2 F=>Ok.bv λz3 G=>Ok.bv λz4 H=>Ok.ck (λ_=>⟨by decide,hl⟩) (Ok.bv λz5 J=>Ok.bv λz6 W=>Ok.bv λz7 X=>Ok.it (λ_=>Ok.ob h λy _ hy=>Ok.sm hy) λc=>?_))
 rw[X,W,J,H,G,F,E,u,f,hs,decide_eq_true hl]at c
 cases c
theorem yr:eD [66,76,65,78,75]=some 0:=by decide +kernel
theorem yf:CoreP 1 5 [⟨3,[66,76,65,78,75],[66,76,65,78,75]⟩,sg [40],sg [41]] (litN ⟨0,0,[]⟩) where
 hh:=by decide
 fst us J:=by
  obtain⟨t,u,rfl,F,_,_⟩:=As.cons J
  have F:t.k=3:=F
  exact⟨t,u,O,λg=>(by rw[F]at g;exact absurd g.1 (by decide)),λ_ g=>(by rw[F]at g;exact absurd g.1 (by decide))⟩
 p5 _ k e D us R K F a7 J hF hK:=by
  obtain⟨t,u,rfl,E,f,G⟩:=As.cons J
  obtain⟨t2,u,rfl,W,X,G⟩:=As.cons G
  obtain⟨t3,u,rfl,Y,a1,G⟩:=As.cons G
  have E:t.k=3:=E
  have f:t.s=[66,76,65,78,75]:=f
  rw[As.nil G]
  refine⟨K,oM,?_⟩
  show obind (parse_parser_primary (parse_ring k).1 (t::t2::t3::R) 0 e D) _=_
  have:parse_parser_primary (parse_ring k).1 (t::t2::t3::R) 0 e D=some (litN ⟨0,0,[]⟩,R):=j4 (jH (by rw[E];decide) (λq=>by rw[E]at q;cases q) (λq=>by rw[E]at q;cases q) (λq=>by rw[E]at q;cases q) (λ_ _ _=>re W X (by
   unfold cq
   rw[f,yr]
   refine Ok.os λy H=>?_
   rw[H]
   refine Ok.bv λz1 e1=>Ok.bv λz2 e2=>Ok.bv λz3 e3=>Ok.it (λc=>by rw[e3,e2]at c;simp at c) λ_=>?_
   refine Ok.ck (by simp only[List.length_cons];omega) (Ok.bv λz4 e4=>Ok.bv λa8 a6=>Ok.bv λB eB=>?_)
   have h4:z4=t3::R:=by
    rw[e4]
    unfold fd
    rw[Int.toNat_natCast,List.take_length]
    rfl
   refine Ok.lp (λs=>s=(t3::R,[])) (λs=>0) (by rw[h4]) (by decide) ?_
   rintro s rfl next hn
   rw[eB]
   show Ok (obind (aN (t3::R) 0 e D [41]) _) _
   rw[mR (g:=[41]) Y a1]
   refine Ok.os λy H=>?_
   subst H
   refine Ok.bv λz5 e5=>Ok.it (λc=>by rw[e5]at c;cases c) λ_=>?_
   rw[a6]
   refine Ok.bv λz6 e6=>Ok.bv λz7 e7=>Ok.bv λz8 e8=>Ok.it (λ_=>Ok.os λy H=>Ok.sm (by rw[H];rfl)) λc=>?_
   rw[e8,e7,e6]at c
   cases c)))
  rw[this]
  rfl
 p4 h:=by cases h
 p3 h:=absurd h (by decide)
theorem CoreP.call{op:Int}{nm t0:List UInt8}{A:List (Int × List Pt × Nd)}(X:eD nm=some op) (Y:1<=op) (hA:∀a∈A,Ar w a) (hl:A.length<=9) (hf:cn op (A.length:Int)=some true) (hw:w<=1000) (a1:1<=w):CoreP (w+1) 5 (⟨3,t0,nm⟩::sg [40]::(ja (A.map (·.2.1))++[sg [41]])) ⟨8,op,⟨0,0,[]⟩,r0,r0,[],A.map (·.2.2)⟩ where
 hh:=by decide
 fst us G:=by
  obtain⟨t,u,rfl,F,_,_⟩:=As.cons G
  have F:t.k=3:=F
  exact⟨t,u,O,λg=>(by rw[F]at g;exact absurd g.1 (by decide)),λ_ g=>(by rw[F]at g;exact absurd g.1 (by decide))⟩
 p5 _ k e D us R K F a6 G hF hK:=by
  obtain⟨t,u,rfl,E,f,H⟩:=As.cons G
  obtain⟨t2,u,rfl,J,W,H⟩:=As.cons H
  have E:t.k=3:=E
  have f:t.s=nm:=f
  refine⟨K,oM,?_⟩
  show obind (parse_parser_primary (parse_ring k).1 (t::t2::(u++R)) 0 e D) _=_
  have:parse_parser_primary (parse_ring k).1 (t::t2::(u++R)) 0 e D=some (⟨8,op,⟨0,0,[]⟩,r0,r0,[],A.map (·.2.2)⟩,R):=j4 (jH (by rw[E];decide) (λq=>by rw[E]at q;cases q) (λq=>by rw[E]at q;cases q) (λq=>by rw[E]at q;cases q) (λ_ _ _=>re J W ⟨_,AH (by rw[f];exact X) Y hA hl hf H hw oM oM oM,O⟩))
  rw[this]
  rfl
 p4 h:=by cases h
 p3 h:=absurd h (by decide)
def BI(b:UInt8):Bool:=[37,38,41,42,43,44,45,47,58,60,61,62].contains b
theorem Bc:([37,38,41,42,43,44,45,47,58,60,61,62]:List UInt8).all (λb=>!isWd b.toNat&&!isDg b.toNat&&!(b == 34))=true:=by decide +kernel
theorem uX{b:UInt8}(h:BI b=true):isWd b.toNat=false/\isDg b.toNat=false/\b≠34:=by
 have:=List.all_eq_true.1 Bc b (List.contains_iff_mem.1 h)
 simp only[bA,Bool.not_eq_eq_eq_not,Bool.not_true,beq_eq_false_iff_ne]at this
 exact⟨this.1.1,this.1.2,this.2⟩
def Sep(R:List UInt8):Prop:=∀b r,R=b::r->BI b=true
structure qH (d:Nat) (n:Nd) (h:Int) (cs:List Pt):Prop where
 sh:∀k,d<=k->∀L:Int,0<=L->L<=5->show_text k n 0 L=some (tx (br h L cs))
 len:(tx cs).length<=200*4 ^ d
 lx:∀R,Sep R->(tx cs++R).length<=1000->LxA cs R
 st:∃b r,tx cs=b::r/\b≠61/\b≠62
theorem wo{n:Nd}(H:qH d n h cs):(tx (br h L cs)).length<=200*4 ^ d+2:=by
 have:=H.len
 unfold br
 split
 · rw[tx,dJ]
   simp only[sg,tx,List.length_append,List.length_cons,List.length_nil]
   omega
 ·omega
theorem vp(g:List UInt8) (ps:List Pt):tx (sg g::ps)=g++tx ps:=rfl
theorem ph.sg{g R:List UInt8}(f:g∈uE) (u:g≠[60]) (E:g≠[62]):ph (sg g) R:=vQ f (λe=>absurd e u) (λe=>absurd e E)
theorem vP{n:Nd}(H:qH d n h cs) (u:Sep Q) (hl:(tx (br h L cs)++Q).length<=1000):LxA (br h L cs) Q:=by
 unfold br at hl⊢
 split at hl
 · rename_i f
   rw[if_pos f]
   refine⟨ph.sg (by decide) (by decide) (by decide),LxA.app (H.lx _ (λb r e=>?_) ?_) ⟨ph.sg (by decide) (by decide) (by decide),trivial⟩⟩
   ·cases e;decide
   · rw[vp,dJ]at hl
     simp only[List.length_append,List.length_cons,vp,tx,List.length_nil]at hl⊢
     omega
 · rename_i f
   rw[if_neg f]
   exact H.lx _ u hl
theorem xW{n:Nd}(H:qH d n h cs) (L:Int):∃b r,tx (br h L cs)=b::r/\b≠61/\b≠62:=by
 unfold br
 split
 ·exact⟨40,_,O,by decide,by decide⟩
 ·exact H.st
theorem zG:∀s:List UInt8,Lib.replaceK [34] [34,34] (Lib.count s [34]) s=eY s
 |[]=>by
  rw[Lib.count_miss (by decide)]
  rfl
 |b::l=>by
  have f:=zG l
  by_cases u:b=34
  · subst u
    rw[Lib.count_cons_eq,Nat.add_comm,Lib.replaceK_hit _ _ _ _ 0 (by simp[Lib.index,List.isPrefixOf])]
    simp only[List.take_zero,List.nil_append,Nat.zero_add,List.length_cons,List.length_nil,List.drop_succ_cons,List.drop_zero]
    rw[f,eY,if_pos rfl]
    rfl
  · rw[Lib.count_cons_ne _ _ _ u,eY,if_neg u]
    cases F:Lib.count l [34]with
    |zero=>
     rw[F]at f
     rw[Lib.replaceK]at f⊢
     rw[<-f]
    |succ k=>
     obtain⟨i,hi⟩:=Lib.index_of_count (s:=l) (old:=[34]) oM
     have E:Lib.index (b::l) [34]=((i+1:Nat):Int):=by
      unfold Lib.index
      have:([34]:List UInt8).isPrefixOf (b::l)=false:=by simp[List.isPrefixOf,Ne.symm u]
      rw[this,hi,if_neg (by decide),if_neg (by simp)]
      rfl
     rw[F,Lib.replaceK_hit _ _ _ _ i hi]at f
     rw[Lib.replaceK_hit _ _ _ _ (i+1) E,<- f]
     simp
theorem BF(s:List UInt8):Lib.replaceAll s [34] [34,34]=eY s:=by
 unfold Lib.replaceAll Lib.replace
 rw[if_neg (by decide)]
 have:Lib.replaceNum s [34] (-1)=Lib.count s [34]:=by unfold Lib.replaceNum;rw[if_pos (.inl (by decide))]
 rw[this]
 exact zG s
theorem vu:∀s:List UInt8,(eY s).length<=2*s.length
 |[]=>by simp[eY]
 |b::l=>by
  have:=vu l
  rw[eY]
  split<;>simp only[List.length_cons]<;>omega
end Go.Sp
end
section
namespace Go.Sp
open Go.Stp Go.ValP
section
variable {α β σ ρ:Type}
def Ok2(x y:Option α) (P:α->α->Prop):Prop:=∃a b,x=some a/\y=some b/\P a b
theorem Ok2.bv{x y:α}{f g:α->Option β}{P:β->β->Prop}(h:∀z u,z=x->u=y->Ok2 (f z) (g u) P):Ok2 (aa x f) (aa y g) P:=h x y rfl rfl
theorem Ok2.ck{p q:Prop} [Decidable p] [Decidable q]{A B:Option β}{P:β->β->Prop}(hp:p) (f:q) (h:Ok2 A B P):Ok2 (aJ p A) (aJ q B) P:=by
 unfold aJ
 rw[if_pos hp,if_pos f]
 exact h
theorem Ok2.ob{x y:Option α}{f g:α->Option β}{P:β->β->Prop}{R:α->α->Prop}(h:Ok2 x y R) (k:∀a b,x=some a->y=some b->R a b->Ok2 (f a) (g b) P):Ok2 (obind x f) (obind y g) P:=by
 obtain⟨a,b,u,E,F⟩:=h
 have:=k a b u E F
 rw[u,E]
 exact this
theorem Ok2.it{b c:Bool}{A B f u:Option β}{P:β->β->Prop}(e:b=c) (E:b=true->Ok2 A f P) (F:b=false->Ok2 B u P):Ok2 (if b=true then A else B) (if c=true then f else u) P:=by
 subst e
 cases b with
 |true=>rw[if_pos rfl,if_pos rfl];exact E O
 |false=>rw[if_neg Bool.false_ne_true,if_neg Bool.false_ne_true];exact F O
theorem Ok2.sm{v w:β}{P:β->β->Prop}(h:P v w):Ok2 (some v) (some w) P:=⟨v,w,rfl,rfl,h⟩
theorem Ok2.mono{x y:Option α}{P R:α->α->Prop}(h:Ok2 x y P) (k:∀v w,P v w->R v w):Ok2 x y R:=by
 obtain⟨v,w,f,u,E⟩:=h
 exact⟨v,w,f,u,k v w E⟩
theorem Ok2.same{x:Option α}{P:α->Prop}(h:Ok x P):Ok2 x x λa b=>a=b/\P a:=by
 obtain⟨v,f,u⟩:=h
 exact⟨v,v,f,f,O,u⟩
theorem Ok2.DB{B u:(σ->Option ρ)->σ->Option ρ}{P:ρ->ρ->Prop}(I:σ->σ->Prop) (μ:σ->Nat) (step:∀s t,I s t->∀next next':σ->Option ρ,(∀s' f,I s' f->μ s'<μ s->Ok2 (next s') (next' f) P)->Ok2 (B next s) (u next' t) P):∀(K:Nat) (s t:σ),I s t->μ s<K->Ok2 (loopF B K s) (loopF u K t) P
 |0,s,t,_,h=>oM
 |K+1,s,t,F,h=>step s t F (loopF B K) (loopF u K) λs' f E G=>Ok2.DB I μ step K s' f E oM
theorem Ok2.lp{B f:(σ->Option ρ)->σ->Option ρ}{P:ρ->ρ->Prop}(I:σ->σ->Prop) (μ:σ->Nat){s t:σ}(E:I s t) (F:μ s<1208925819614629174706176) (step:∀s t,I s t->∀next next':σ->Option ρ,(∀s' u,I s' u->μ s'<μ s->Ok2 (next s') (next' u) P)->Ok2 (B next s) (f next' t) P):Ok2 (loopF B KK s) (loopF f KK t) P:=
 Ok2.DB I μ step KK s t E (by unfold KK;omega)
end
def xJ(m1 m2 a b:List (C × Bool)):Prop:=∃S:C->Prop,(∀c,c∈ks a<->c∈ks m1\/S c)/\∀c,c∈ks b<->c∈ks m2\/S c
theorem xJ.refl(m1 m2:List (C × Bool)):xJ m1 m2 m1 m2:=⟨λ_=>False,λc=>by simp,λc=>by simp⟩
theorem uz{m:List (C × Bool)}{k c:C}{v:Bool}:c∈ks (ld m k v)<->c∈ks m\/c=k:=by
 rcases o8 m k v with⟨h,g⟩|h
 · rw[h]
   exact⟨.inl,λe=>e.elim id λe=>by rw[e];exact g⟩
 · rw[h]
   simp
theorem xJ.put(m1 m2:List (C × Bool)) (k:C) (v:Bool):xJ m1 m2 (ld m1 k v) (ld m2 k v):=⟨λc=>c=k,λ_=>uz,λ_=>uz⟩
def Rel(m1 m2:List (C × Bool)) (r1 r2:Gt × List (C × Bool)):Prop:=r1.1=r2.1/\Rt r1.1.v/\xJ m1 m2 r1.2 r2.2
end Go.Sp
end
section
namespace Go.Sp
open Go.Stp Go.ValP
variable {rec rec':Rn->Nd->(List (C × Bool))->Option ((Gt) × List (C × Bool))}{R:Rn}{n:Nd}{m1 m2:List (C × Bool)}
theorem yo{v:V}:Ok2 (aK R v) (aK R v) λg f=>g=⟨v,R.c⟩/\f=⟨v,R.c⟩:=Ok2.sm ⟨rfl,rfl⟩
theorem tA(hp:okP R.p) (c:C):Ok2 (cU R c m1) (cU R c m2) (Rel m1 m2):=by
 obtain⟨r,u,E⟩:=o_ hp c m1
 obtain⟨r',f,F⟩:=o_ hp c m2
 refine⟨r,r',u,f,?_⟩
 unfold cU at u f
 simp only[aa]at u f
 cases e:bR R.p c with
 |none=>rw[e]at u;cases u
 |some q=>
  rw[e]at u f
  cases u
  cases f
  exact⟨O,E.rt,xJ.put _ _ _ _⟩
end Go.Sp
end
section
namespace Go.Sp
open Go.Stp Go.ValP
variable {rec rec':Rn->Nd->(List (C × Bool))->Option ((Gt) × List (C × Bool))}{R:Rn}{n:Nd}{m1 m2:List (C × Bool)}
theorem ry{σ α:Type}{B F:σ->α->Option σ}{N:Nat}(I:σ->σ->Nat->Prop) (step:∀s t i x,i<N->I s t i->Ok2 (B s x) (F t x) λf u=>I f u (i+1)):∀(xs:List α) (s t:σ) (i:Nat),i+xs.length<=N->I s t i->Ok2 (gK B s xs) (gK F t xs) λf u=>I f u (i+xs.length)
 |[],s,t,i,_,h=>Ok2.sm h
 |x::xs,s,t,i,G,h=>Ok2.ob (step s t i x (by simp only[List.length_cons]at G;omega) h) λf u _ _ E=>(ry I step xs f u (i+1) (by simp only[List.length_cons]at G;omega) E).mono λv w H=>by
  have e:i+1+xs.length=i+(x::xs).length:=by simp only[List.length_cons];omega
  rw[<-e]
  exact H
end Go.Sp
end
