/- Joined texts. -/
import Derived.WalkSpells
import Derived.WalkLawsBesides
import Derived.Deep.Quiet
import Derived.StillTail
import Derived.Lib.Bytealg
set_option linter.all false
theorem O.{u}{α:Sort u}{a:α}:a=a:=rfl
section
namespace Go.Stp
open Go.RowKit
abbrev O2{α:Type}{a0 a1:α}:List α:=[a0,a1]
abbrev O3{α:Type}{a0 a1 a2:α}:List α:=[a0,a1,a2]
abbrev O4{α:Type}{a0 a1 a2 a3:α}:List α:=[a0,a1,a2,a3]
abbrev O5{α:Type}{a0 a1 a2 a3 a4:α}:List α:=[a0,a1,a2,a3,a4]
abbrev O6{α:Type}{a0 a1 a2 a3 a4 a5:α}:List α:=[a0,a1,a2,a3,a4,a5]
abbrev O7{α:Type}{a0 a1 a2 a3 a4 a5 a6:α}:List α:=[a0,a1,a2,a3,a4,a5,a6]
abbrev O8{α:Type}{a0 a1 a2 a3 a4 a5 a6 a7:α}:List α:=[a0,a1,a2,a3,a4,a5,a6,a7]
abbrev O9{α:Type}{a0 a1 a2 a3 a4 a5 a6 a7 a8:α}:List α:=[a0,a1,a2,a3,a4,a5,a6,a7,a8]
abbrev zz{α:Type}{a0 a1 a2 a3 a4 a5 a6 a7 a8 a9:α}:List α:=[a0,a1,a2,a3,a4,a5,a6,a7,a8,a9]
abbrev yU{α:Type}{a0 a1 a2 a3 a4 a5 a6 a7 a8 a9 a10:α}:List α:=[a0,a1,a2,a3,a4,a5,a6,a7,a8,a9,a10]
abbrev En{α:Type}{a0 a1 a2 a3 a4 a5 a6 a7 a8 a9 a10 a11:α}:List α:=[a0,a1,a2,a3,a4,a5,a6,a7,a8,a9,a10,a11]
abbrev xR{α:Type}{a0 a1 a2 a3 a4 a5 a6 a7 a8 a9 a10 a11 a12:α}:List α:=[a0,a1,a2,a3,a4,a5,a6,a7,a8,a9,a10,a11,a12]
abbrev aA{α:Type}{a0 a1 a2 a3 a4 a5 a6 a7 a8 a9 a10 a11 a12 a13 a14 a15 a16:α}:List α:=[a0,a1,a2,a3,a4,a5,a6,a7,a8,a9,a10,a11,a12,a13,a14,a15,a16]
abbrev E_{α:Type}{a0 a1 a2 a3 a4 a5 a6 a7 a8 a9 a10 a11 a12 a13 a14 a15 a16 a17 a18 a19 a20 a21 a22 a23 a24 a25 a26 a27 a28 a29 a30 a31 a32 a33:α}:List α:=[a0,a1,a2,a3,a4,a5,a6,a7,a8,a9,a10,a11,a12,a13,a14,a15,a16,a17,a18,a19,a20,a21,a22,a23,a24,a25,a26,a27,a28,a29,a30,a31,a32,a33]
abbrev E4{α:Type}{a0 a1 a2 a3 a4 a5 a6 a7 a8 a9 a10 a11 a12 a13 a14 a15 a16 a17 a18 a19 a20 a21 a22 a23 a24 a25 a26 a27 a28 a29 a30 a31 a32 a33 a34 a35 a36 a37 a38 a39 a40 a41 a42 a43 a44 a45 a46 a47 a48 a49 a50 a51 a52 a53 a54 a55 a56 a57 a58 a59 a60 a61 a62 a63 a64 a65 a66 a67:α}:List α:=[a0,a1,a2,a3,a4,a5,a6,a7,a8,a9,a10,a11,a12,a13,a14,a15,a16,a17,a18,a19,a20,a21,a22,a23,a24,a25,a26,a27,a28,a29,a30,a31,a32,a33,a34,a35,a36,a37,a38,a39,a40,a41,a42,a43,a44,a45,a46,a47,a48,a49,a50,a51,a52,a53,a54,a55,a56,a57,a58,a59,a60,a61,a62,a63,a64,a65,a66,a67]
theorem kR{p:Prop}(h:p:=by kernel_rfl):p:=h
def look:List (Nat × Value)->Nat->Option Value
 |[],_=>none
 |(k,v)::l,i=>bif Nat.beq k i then some v else look l i
structure Nm where
 n:Nat
 ds:List Deferred
instance (k:Nat):OfNat Nm k:=⟨⟨k,[]⟩⟩
instance:Coe Nat Nm:=⟨λk=>⟨k,[]⟩⟩
structure Fr (n:Nm) (l:List (Nat × Value)) (a:Act):Prop where
 size:a.tmps.size=n.n
 defers:a.defers=n.ds
 has:∀i v,look l i=some v->a.tmps.getD i undef=v
def ev(l:List (Nat × Value)):Operand->Option Value
 |.tmp t=>look l t
 |.const v=>some v
 |.global g=>some (.pointer (some ⟨g,0,none⟩))
 |.func f=>some (.func (.func f) #[] #[])
def nI(l:List (Nat × Value)):List Operand->Option (List Value)
 |[]=>some []
 |x::xs=>match ev l x,nI l xs with
  |some v,some G=>some (v::G)
  |_,_=>none
section
variable {n:Nm}{l:List (Nat × Value)}{a:Act}
theorem Fr.ev(h:Fr n l a){x:Operand}{v:Value}(e:ev l x=some v):a.eval x=v:=by
 cases x with
 |tmp t=>exact h.has _ _ e
 |const v=>simpa[Stp.ev,Act.eval]using e
 |global g=>simpa[Stp.ev,Act.eval]using e
 |func f=>simpa[Stp.ev,Act.eval]using e
theorem Fr.nI(h:Fr n l a):∀{xs:List Operand}{G:List Value},nI l xs=some G->xs.map a.eval=G
 |[],G,e=>by simpa[Stp.nI]using e
 |x::xs,G,e=>by
  simp only[Stp.nI]at e
  split at e
  · rename_i v W J H
    simp only[Option.some.injEq]at e
    subst e
    simp[h.ev J,h.nI H]
  ·cases e
theorem Fr.wO(h:Fr n l a){xs:Array Operand}{G:List Value}(e:Stp.nI l xs.toList=some G):xs.map a.eval=G.toArray:=by
 rw[<-h.nI e]
 apply Array.toList_inj.1
 simp
theorem Fr.put(h:Fr n l a){d:Nat}(hd:Nat.blt d n.n=true) (v:Value):Fr n ((d,v)::l) (a.put (some d) v):=by
 have G:d<n.n:=by simpa[Nat.blt_eq]using hd
 refine⟨by simp[Act.put,h.size],by simp[Act.put,h.defers],λi u e=>?_⟩
 simp only[look]at e
 by_cases hi:d=i
 · subst hi
   simp at e
   subst e
   simp[Act.put,Array.getD_eq_getD_getElem?,h.size,G]
 · have:Nat.beq d i=false:=by
    cases H:Nat.beq d i with
    |false=>rfl
    |true=>exact absurd (Nat.eq_of_beq_eq_true H) hi
   rw[this]at e
   simp only[cond_false]at e
   rw[<-h.has i u e]
   simp[Act.put,Array.getD_eq_getD_getElem?,hi]
theorem Fr.C'(h:Fr n l a) (G:List (Nat × Value)) (hs:∀p∈G,look l p.1=some p.2):Fr n G a:=by
 refine⟨h.size,h.defers,λi v e=>?_⟩
 have H:∀(m:List (Nat × Value)),look m i=some v->∃p∈m,p=(i,v):=by
  intro m
  induction m with
  |nil=>intro e;cases e
  |cons q m X=>
   obtain⟨k,u⟩:=q
   intro e
   simp only[look]at e
   cases J:Nat.beq k i with
   |true=>
    rw[J]at e
    simp at e
    have:=Nat.eq_of_beq_eq_true J
    exact⟨(k,u),by simp,by rw[this,e]⟩
   |false=>
    rw[J]at e
    simp at e
    obtain⟨p,hp,W⟩:=X e
    exact⟨p,by simp[hp],W⟩
 obtain⟨p,hp,rfl⟩:=H G e
 exact h.has _ _ (hs _ hp)
def rQ(l:List (Nat × Value)):List (Nat × Value)->Prop
 |[]=>True
 |p::m=>look l p.1=some p.2/\rQ l m
theorem ox:∀{m:List (Nat × Value)},rQ l m->∀p∈m,look l p.1=some p.2
 |q::m,h,p,hp=>by
  cases hp with
  |head=>exact h.1
  |tail _ hp=>exact ox h.2 p hp
theorem Fr.cut(h:Fr n l a) (G:List (Nat × Value)) (hs:rQ l G):Fr n G a:=h.C' G (ox hs)
def kn(l:List (Nat × Value)):List Nat->List (Nat × Value)
 |[]=>[]
 |i::is=>match look l i with
  |some v=>(i,v)::kn l is
  |none=>kn l is
theorem nO:∀{is:List Nat}(p:Nat × Value),p∈kn l is->look l p.1=some p.2
 |i::is,p,h=>by
  simp only[kn]at h
  split at h
  · rename_i v G
    cases h with
    |head=>exact G
    |tail _ h=>exact nO p h
  ·exact nO p h
theorem Fr.only(h:Fr n l a) (is:List Nat){l':List (Nat × Value)}(e:kn l is=l'):Fr n l' a:=by
 subst e
 exact h.C' _ nO
end
def cH(P:Program) (l:List (Nat × Value)) (w:World) (o:Oper) (V:Value):Prop:=
 ∀(n:Nm) a,Fr n l a->(execOp a.eval o).run P w=.ok (.value V) w
def dt(P:Program) (l:List (Nat × Value)) (w:World) (o:Oper) (R:Value->World->Prop):Prop:=
 ∀(n:Nm) a,Fr n l a->∀(K:Act->World->Prop) (Q:Exit->Act->World->Prop),(∀v w',R v w'->K (a.put o.dst v) w')->o.wp P a w K Q
def bj(R:Value->World->Prop):Ending->World->Prop
 |.returned v,w=>R v w
 |_,_=>False
section
variable {P:Program}{ops:Array Oper}{Q:Exit->Act->World->Prop}{rest:List Oper}{o:Oper}{n:Nm}{d:Nat}{l:List (Nat × Value)}{a:Act}{w:World}{V:Value}
theorem cH.Dv(h:cH P l w o V):dt P l w o (λv w'=>v=V/\w'=w):=λn a G K Q H=>by
 unfold Oper.wp
 rw[h n a G]
 exact H _ _ ⟨O,O⟩
theorem st1(h:Fr n l a) (J:o.guard=none) (hd:o.dst=some d) (G:Nat.blt d n.n=true) (W:cH P l w o V)
 (k:∀H,Fr n ((d,V)::l) H->wpList P ops Q rest H w):wpList P ops Q (o::rest) a w:=by
 refine wpList_plain J λK X=>?_
 unfold Oper.wp
 rw[W n a h]
 refine X _ _ ?_
 rw[hd]
 exact k _ (h.put G V)
theorem st2{R:Value->World->Prop}(h:Fr n l a) (J:o.guard=none) (hd:o.dst=some d) (G:Nat.blt d n.n=true) (W:dt P l w o R)
 (k:∀v w',R v w'->∀H,Fr n ((d,v)::l) H->wpList P ops Q rest H w'):wpList P ops Q (o::rest) a w:=by
 refine wpList_plain J λK X=>?_
 refine W n a h K Q λv w' Y=>X _ _ ?_
 rw[hd]
 exact k v w' Y _ (h.put G v)
end
section
variable {P:Program}{Q:Exit->Act->World->Prop}{n:Nm}{l:List (Nat × Value)}{a:Act}{w:World}
theorem yP{id:Nat}{ol:List Oper}{y:Code}(h:∀K:Act->World->Prop,(∀a w,y.wp P Q a w->K a w)->wpList P ol.toArray (Exit.then K Q) ol a w) :
 (Code.seq (.region id ol.toArray false) y).wp P Q a w:=
 wp_seq_k λK G=>wp_region_lit (h K G)
theorem ah{id:Nat}{ol:List Oper}(h:wpList P ol.toArray Q ol a w):(Code.region id ol.toArray false).wp P Q a w:=wp_region_lit h
theorem am{ops:Array Oper}(h:Q .normal a w):wpList P ops Q [] a w:=h
def Dc(Q G:Exit->Act->World->Prop) (id:Option Nat):Prop:=∀e a w,e≠.normal->(∀i,id=some i->e≠.exit i)->Q e a w->G e a w
theorem Bk{c:Code}(I:Nat->Act->World->Prop) (k₀:Nat) (h₀:I k₀ a w)
 (round:∀k a w,I k a w->∀Q',(∀k' H w',k'<k->I k' H w'->Q' .normal H w')->Dc Q Q' none->c.wp P Q' a w):(Code.loop c).wp P Q a w:=by
 intro b kk cs
 have a1:∀m a w,I m a w->
  ∃e H w',Q e H w'/\Arrives P (lone (b.at a (.code c::.inLoop c::kk)) cs w) b kk cs e H w':=by
  intro m
  induction m using Nat.strongRecOn with
  |_ m ih=>
   intro a w hI
   obtain⟨e,X,Y,J,G⟩:=round m a w hI (λe H w'=>match e with|.normal=>∃k',k'<m/\I k' H w'|e=>Q e H w') (λk' H w' h1 h2=>⟨k',h1,h2⟩)
    (λe a w hn _ h=>by cases e<;>first|exact h|exact absurd O hn) b (.inLoop c::kk) cs
   cases e with
   |normal=>
    obtain⟨k',a6,a7⟩:=J
    obtain⟨e₂,a₂,w₂,a8,W⟩:=ih k' a6 X Y a7
    exact⟨e₂,a₂,w₂,a8,.of_steps (Steps.trans G (.one step_inLoop)) W⟩
   |exit id=>exact⟨_,X,Y,J,.pass (x:=.inLoop c) O (λ_ _=>.inl (by simp)) G⟩
   |goto l=>exact⟨_,X,Y,J,.pass (x:=.inLoop c) O (λ_ _=>.inl (by simp)) G⟩
   |ret=>exact⟨_,X,Y,J,.pass (x:=.inLoop c) O (λ_ _=>.inl (by simp)) G⟩
   |panic ch=>exact⟨_,X,Y,J,.pass (x:=.inLoop c) O (λ_ _=>.inl (by simp)) G⟩
   |outgrown=>exact⟨_,X,Y,J,.pass (x:=.inLoop c) O (λ_ _=>.inl (by simp)) G⟩
 obtain⟨e,H,w',J,G⟩:=a1 k₀ a w h₀
 exact⟨e,H,w',J,.of_steps (.one step_loop) G⟩
theorem BG{c body:Code}(lb:Nat) (I:Nat->Act->World->Prop) (hf:findLabel c lb=some (.seq .skip body))
 (a1:∀k a w,I k a w->∀Y,(∀X w',(∃k',k'<k/\I k' X w')->Y (.goto lb) X w')->(∀a w,Q .normal a w->Y .normal a w)->(∀a w,Q .ret a w->Y .ret a w)->body.wp P Y a w)
 (first:∀Y,(∀k a w,I k a w->body.wp P Y a w)->(∀a w,Q .normal a w->Y .normal a w)->(∀a w,Q .ret a w->Y .ret a w)->c.wp P Y a w):(Code.scope c).wp P Q a w:=by
 intro b kk cs
 have hg:gotoIn lb (.inScope c::kk)=some (.code (.seq .skip body)::.inScope c::kk):=by simp[gotoIn,hf]
 let QJ (J:Act->World->Prop):Exit->Act->World->Prop:=λe a w=>match e with|.goto l'=>l'=lb/\J a w|.exit _=>False|.panic _=>False|.outgrown=>False|.normal=>Q .normal a w|.ret=>Q .ret a w
 have hb:∀k a w,I k a w->body.wp P (QJ λX w'=>∃k',k'<k/\I k' X w') a w:=λk a w hI=>a1 k a w hI _ (λX w' h1=>⟨rfl,h1⟩) (λ_ _ h=>h) (λ_ _ h=>h)
 have a8:∀k a w,I k a w->body.wp P (QJ λX w'=>∃k',I k' X w') a w:=λk a w hI=>wp_mono (hb k a w hI) λe a w h=>by
  cases e with
  |goto l'=>obtain⟨h1,k',_,h2⟩:=h;exact⟨h1,k',h2⟩
  |normal=>exact h
  |ret=>exact h
  |exit _=>exact h
  |panic _=>exact h
  |outgrown=>exact h
 have ad:∀m a w,I m a w->∃e X w',Q e X w'/\Arrives P (lone (b.at a (.code (.seq .skip body)::.inScope c::kk)) cs w) b kk cs e X w':=by
  intro m
  induction m using Nat.strongRecOn with
  |_ m ih=>
   intro a w hI
   have hs:(Code.seq .skip body).wp P (QJ λX w'=>∃k',k'<m/\I k' X w') a w:=wp_seq (wp_skip (hb m a w hI))
   obtain⟨e,a₁,w₁,W,G⟩:=hs b (.inScope c::kk) cs
   cases e with
   |normal=>exact⟨.normal,a₁,w₁,W,Steps.trans G (.one step_inScope)⟩
   |exit id=>exact W.elim
   |goto l'=>
    obtain⟨rfl,k',ao,a6⟩:=W
    obtain⟨e₂,a₂,w₂,a7,H⟩:=ih k' ao a₁ w₁ a6
    exact⟨e₂,a₂,w₂,a7,.of_steps (G _ hg) H⟩
   |ret=>exact⟨_,a₁,w₁,W,G⟩
   |panic ch=>exact W.elim
   |outgrown=>exact W.elim
 obtain⟨e,a₁,w₁,W,G⟩:=first _ a8 (λ_ _ h=>h) (λ_ _ h=>h) b (.inScope c::kk) cs
 cases e with
 |normal=>exact⟨.normal,a₁,w₁,W,.head step_scope (Steps.trans G (.one step_inScope))⟩
 |exit id=>exact W.elim
 |goto l'=>
  obtain⟨rfl,k',a6⟩:=W
  obtain⟨e₂,a₂,w₂,a7,H⟩:=ad k' a₁ w₁ a6
  exact⟨e₂,a₂,w₂,a7,.of_steps (.head step_scope (G _ hg)) H⟩
 |ret=>exact⟨_,a₁,w₁,W,.of_steps (.one step_scope) G⟩
 |panic ch=>exact W.elim
 |outgrown=>exact W.elim
theorem zb{lb:Nat}(h:Q (.goto lb) a w):(Code.goto lb).wp P Q a w:=wp_goto h
theorem Bi{lb:Nat}{y:Code}(h:y.wp P Q a w):(Code.seq (.label lb) y).wp P Q a w:=wp_seq (wp_label h)
theorem mF{c:Operand}{x y:Code}{b:Bool}(h:Fr n l a) (G:ev l c=some (.bool b)) (H:b=true->x.wp P Q a w) (J:b=false->y.wp P Q a w):(Code.cond c x y).wp P Q a w:=
 wp_cond_split (h.ev G) H J
theorem ag(h:Q .normal a w):Code.skip.wp P Q a w:=wp_skip h
theorem aR{id:Nat}(h:Q (.exit id) a w):(Code.exit id).wp P Q a w:=wp_exit h
theorem qe(h:Q .ret a w):Code.ret.wp P Q a w:=wp_ret h
end
def lK:Nat->List Value->List (Nat × Value)
 |_,[]=>[]
 |i,v::G=>(i,v)::lK (i+1) G
theorem pn:∀(G:List Value) (k i:Nat) (v:Value),look (lK k G) i=some v->k<=i/\G[i-k]?=some v
 |[],k,i,v,h=>by cases h
 |u::G,k,i,v,h=>by
  simp only[lK,look]at h
  cases H:Nat.beq k i with
  |true=>
   rw[H]at h
   have:=Nat.eq_of_beq_eq_true H
   subst this
   simp at h
   simp[h]
  |false=>
   rw[H]at h
   simp only[cond_false]at h
   obtain⟨J,h2⟩:=pn G (k+1) i v h
   refine⟨by omega,?_⟩
   have:i-k=(i-(k+1))+1:=by omega
   rw[this]
   simpa using h2
theorem Fr.enter(n:Nat) (G:List Value) (hn:Nat.ble G.length n=true):Fr n (lK 0 G) { tmps:=G.toArray++Array.replicate (n-G.toArray.size) undef,defers:=[] }:=by
 have J:G.length<=n:=by simpa[Nat.ble_eq]using hn
 refine⟨by simp;omega,rfl,λi v e=>?_⟩
 obtain⟨-,H⟩:=pn G 0 i v e
 simp only[Nat.sub_zero]at H
 have hi:i<G.length:=(List.getElem?_eq_some_iff.1 H).1
 have W:G[i]'hi=v:=by
  rw[List.getElem?_eq_getElem hi]at H
  exact Option.some.inj H
 simp[Array.getD_eq_getD_getElem?,Array.getElem?_append,hi,W]
def Out(P:Program) (fn:Func) (R:Value->World->Prop) (a:Act) (w:World):Prop:=a.defers=[]/\∃v,(results fn a.tmps).run P w=.ok v w/\R v w
theorem enter{P:Program}{f:FuncId}{fn:Func}{c:Code}{G:List Value}{n:Nat}{w:World}{R:Value->World->Prop}
 (Y:P.funcs[f]?=some fn) (hb:fn.body=some c) (hn:fn.ntmps=n) (H:Nat.ble G.length n=true)
 (h:∀Q a,Fr n (lK 0 G) a->(∀a w,Out P fn R a w->Q .ret a w)->(∀a w,Out P fn R a w->Q .normal a w)->c.wp P Q a w):Calls P f G.toArray w (bj R):=by
 refine calls_of_wp Y hb ?_
 rw[hn]
 exact h _ _ (Fr.enter n G H) (λa w ⟨J,v,W,X⟩=>⟨J,v,W,X⟩) (λa w ⟨J,v,W,X⟩=>⟨J,v,W,X⟩)
def RV(P:Program) (l:List (Nat × Value)) (w:World):ResultVar->Value->Prop
 |.tmp t,v=>look l t=some v
 |.cell p ty,v=>∃G,look l p=some (.pointer (some G))/\(loadVar ty G).run P w=.ok v w
section
variable {P:Program}{fn:Func}{R:Value->World->Prop}{n:Nm}{l:List (Nat × Value)}{a:Act}{w:World}
theorem Cw(h:Fr n l a) (H:fn.results=#[]) (J:R (.tuple #[]) w) (G:n.ds=[]:=by rfl):Out P fn R a w:=⟨h.defers.trans G,_,by simp[results,H],J⟩
theorem RV.run(h:Fr n l a):∀{r:ResultVar}{v:Value},RV P l w r v->(match r with|.tmp t=>(pure (a.tmps.getD t undef):Sem Value)|.cell p ty=>do loadVar ty (<- asAddr (a.tmps.getD p undef))).run P w=.ok v w
 |.tmp t,v,G=>by simp[h.has _ _ G]
 |.cell p ty,v,⟨W,H,J⟩=>by simp[h.has _ _ H,asAddr,J]
end
end Go.Stp
end
section
namespace Go.Stp
open Go.RowKit
abbrev S(l:List UInt8):Value:=.string ⟨l.toArray⟩
def bt(l:List UInt8) (z:Int):Int:=((l.getD z.toNat 0).toNat:Int)
def i_(l:List UInt8) (lo hi:Int):List UInt8:=(l.take hi.toNat).drop lo.toNat
theorem tQ(l:List UInt8) (lo hi:Int):(i_ l lo hi).length=min hi.toNat l.length-lo.toNat:=by simp[i_]
def gw(c:Bool) (V:Value):Value:=match c with
 |true=>V
 |false=>undef
theorem DX{c:Bool}(h:c=true) (V:Value):gw c V=V:=by subst h;rfl
theorem eg{l:List (Nat × Value)}{x:Operand}{c:Bool}{X:Value}(h:c=true) (G:ev l x=some (gw c X)):ev l x=some X:=by rw[G,DX h]
theorem EV{l:List (Nat × Value)}{x:Operand}{c b:Bool}{X:Value}(h:c=true) (G:ev l x=some (gw (c&&b) X)):ev l x=some (gw b X):=by rw[G,h,Bool.true_and]
section
variable {P:Program}{ops:Array Oper}{Q:Exit->Act->World->Prop}{rest:List Oper}{o:Oper}{n:Nm}{d:Nat}{l:List (Nat × Value)}{a:Act}{w:World}{V:Value}
def E1(b:Bool) (U:Value):Bool:=match U with|.bool u=>u == b|_=>false
theorem gV(h:Fr n l a){j g:Nat}{b:Bool}{U:Value}(J:o.guard=some (j,b)) (W:(ops[j]?).bind (·.dst)=some g) (G:look l g=some U) :
 Region.wanted o (yielded ops a.tmps)=E1 b U:=by
 have e:=h.has _ _ G
 simp only[Region.wanted,J,yielded,W,Option.bind_some]
 rw[Array.getD_eq_getD_getElem?]at e
 cases H:a.tmps[g]? with
 |none=>
  rw[H]at e
  simp only[Option.getD_none]at e
  subst e
  cases b<;>rfl
 |some u=>
  rw[H]at e
  simp only[Option.getD_some]at e
  subst e
  cases u with
  |bool u=>cases u<;>cases b<;>rfl
  |_=>cases b<;>rfl
def ln(l:List (Nat × Value)) (g:Nat) (b c:Bool):Prop:=∃U,look l g=some U/\E1 b U=c
theorem gT{g:Nat}{b:Bool}(h:look l g=some (.bool b)):ln l g true b:=⟨_,h,by cases b<;>rfl⟩
theorem gF{g:Nat}{b:Bool}(h:look l g=some (.bool b)):ln l g false (!b):=⟨_,h,by cases b<;>rfl⟩
theorem xM{g:Nat}{c b:Bool}(h:look l g=some (gw c (.bool b))):ln l g true (c&&b):=⟨_,h,by cases c<;>cases b<;>rfl⟩
theorem vW(h:Fr n l a) (hd:o.dst=some d) (G:Nat.blt d n.n=true) (J:Region.wanted o (yielded ops a.tmps)=false) (k:∀H,Fr n ((d,undef)::l) H->wpList P ops Q rest H w):wpList P ops Q (o::rest) a w:=by
 simp only[wpList,J]
 have:=k _ (h.put G undef)
 rw[hd]
 simpa using this
theorem ai{j g:Nat}{b c:Bool}(h:Fr n l a) (X:o.guard=some (j,b)) (Y:(ops[j]?).bind (·.dst)=some g) (H:ln l g b c) (hd:o.dst=some d) (G:Nat.blt d n.n=true)
 (hv:c=true->cH P l w o V) (k:∀W,Fr n ((d,gw c V)::l) W->wpList P ops Q rest W w):wpList P ops Q (o::rest) a w:=by
 obtain⟨U,hU,hc⟩:=H
 have J:=gV h X Y hU
 rw[hc]at J
 cases c with
 |true=>
  simp only[wpList,J,if_true]
  left
  unfold Oper.wp
  rw[hv rfl n a h]
  show wpList P ops Q rest (a.put o.dst V) w
  rw[hd]
  exact k _ (h.put G V)
 |false=>exact vW h hd G J k
theorem d_{T:World->World->Prop}(h:Fr n l a) (J:o.guard=none) (hd:o.dst=some d) (G:Nat.blt d n.n=true) (W:dt P l w o (λv w'=>v=V/\T w w'))
 (k:∀w',T w w'->∀H,Fr n ((d,V)::l) H->wpList P ops Q rest H w'):wpList P ops Q (o::rest) a w:=
 st2 h J hd G W (by rintro v w' ⟨rfl,X⟩;exact k w' X)
theorem mh{T:World->World->Prop}{j g:Nat}{b c:Bool}(h:Fr n l a) (X:o.guard=some (j,b)) (Y:(ops[j]?).bind (·.dst)=some g) (H:ln l g b c) (hd:o.dst=some d) (G:Nat.blt d n.n=true)
 (hT:T w w) (hv:c=true->dt P l w o (λv w'=>v=V/\T w w')) (k:∀w',T w w'->∀W,Fr n ((d,gw c V)::l) W->wpList P ops Q rest W w'):wpList P ops Q (o::rest) a w:=by
 obtain⟨U,hU,hc⟩:=H
 have J:=gV h X Y hU
 rw[hc]at J
 cases c with
 |true=>
  simp only[wpList,J,if_true]
  left
  refine hv O n a h _ Q λv w' hr=>?_
  obtain⟨rfl,ht⟩:=hr
  rw[hd]
  exact k w' ht _ (h.put G _)
 |false=>exact vW h hd G J (k w hT)
end
theorem wi{z:Int}(h:-9223372036854775808<=z/\z<=9223372036854775807):IntKind.i64.wrap z=z:=IntWalk.i64_in z h
section
variable {ρ:Operand->Value}{d:Option Nat}{x y c:Operand}{t t' ty:TypeId}{pos:String}{af:Array Edge}{g:Option (Nat × Bool)}
theorem dx(op:BinOp):execOp ρ ⟨d,.binOp op t x y t',ty,pos,af,g⟩=(do eqGuard op t x y (ρ x) (ρ y);binOp op t (ρ x) (ρ y)) >>= λv=>pure (.value v):=rfl
theorem BZ(op:UnOp):execOp ρ ⟨d,.unOp op t x,ty,pos,af,g⟩=Op.unary op (ρ x) >>= λv=>pure (.value v):=rfl
theorem wj:execOp ρ ⟨d,.pick c x y,ty,pos,af,g⟩=(do pure (.value (if <- asBool (ρ c)then ρ x else ρ y))):=rfl
theorem uF:execOp ρ ⟨d,.index t x y,ty,pos,af,g⟩=Instr.index t (ρ x) (ρ y) >>= λv=>pure (.value v):=rfl
end
section
variable {P:Program}{l:List (Nat × Value)}{w:World}{d:Option Nat}{x y c u v:Operand}{t t' ty:TypeId}{pos:String}{af:Array Edge}{g:Option (Nat × Bool)}{k k':IntKind}{p q:Int}{V V':Value}
theorem an(G:ev l x=some V):cH P l w ⟨d,.move x,ty,pos,af,g⟩ V:=λn a h=>by simp[execOp,h.ev G]
theorem yj(G:ev l x=some V):cH P l w ⟨d,.assign x,ty,pos,af,g⟩ V:=λn a h=>by simp[execOp,h.ev G]
theorem bK{b r:Bool}(G:ev l c=some (.bool b)) (H:ev l x=some (gw b (.bool r))):cH P l w ⟨d,.pick c x (.const (.bool false)),ty,pos,af,g⟩ (.bool (b&&r)):=λn a h=>by
 rw[wj,h.ev H,h.ev G]
 cases b<;>simp[asBool,gw,Act.eval]
theorem ca{b r:Bool}(G:ev l c=some (.bool b)) (hy:ev l y=some (gw (!b) (.bool r))):cH P l w ⟨d,.pick c (.const (.bool true)) y,ty,pos,af,g⟩ (.bool (b||r)):=λn a h=>by
 rw[wj,h.ev hy,h.ev G]
 cases b<;>simp[asBool,gw,Act.eval]
theorem aD(G:ev l x=some (.int k p)) (hy:ev l y=some (.int k q)):cH P l w ⟨d,.binOp .eql t x y t',ty,pos,af,g⟩ (.bool (decide (p=q))):=λn a h=>by
 rw[dx,h.ev G,h.ev hy]
 cases k<;>rfl
theorem fN(G:ev l x=some (.int k p)) (hy:ev l y=some (.int k q)):cH P l w ⟨d,.binOp .neq t x y t',ty,pos,af,g⟩ (.bool (!decide (p=q))):=λn a h=>by
 rw[dx,h.ev G,h.ev hy]
 cases k<;>rfl
theorem bn(G:ev l x=some (.int k p)) (hy:ev l y=some (.int k q)):cH P l w ⟨d,.binOp .lss t x y t',ty,pos,af,g⟩ (.bool (decide (p<q))):=λn a h=>by
 rw[dx,h.ev G,h.ev hy]
 cases k<;>rfl
theorem jX(G:ev l x=some (.int k p)) (hy:ev l y=some (.int k q)):cH P l w ⟨d,.binOp .leq t x y t',ty,pos,af,g⟩ (.bool (decide (p<=q))):=λn a h=>by
 rw[dx,h.ev G,h.ev hy]
 cases k<;>rfl
theorem dS(G:ev l x=some (.int k p)) (hy:ev l y=some (.int k q)):cH P l w ⟨d,.binOp .gtr t x y t',ty,pos,af,g⟩ (.bool (decide (q<p))):=λn a h=>by
 rw[dx,h.ev G,h.ev hy]
 cases k<;>rfl
theorem gI(G:ev l x=some (.int k p)) (hy:ev l y=some (.int k q)):cH P l w ⟨d,.binOp .geq t x y t',ty,pos,af,g⟩ (.bool (decide (q<=p))):=λn a h=>by
 rw[dx,h.ev G,h.ev hy]
 cases k<;>rfl
theorem aw(G:ev l x=some (.int k p)) (hy:ev l y=some (.int k q)):cH P l w ⟨d,.binOp .add t x y t',ty,pos,af,g⟩ (.int k (k.wrap (p+q))):=λn a h=>by
 rw[dx,h.ev G,h.ev hy]
 cases k<;>rfl
theorem bf(G:ev l x=some (.int k p)) (hy:ev l y=some (.int k q)):cH P l w ⟨d,.binOp .sub t x y t',ty,pos,af,g⟩ (.int k (k.wrap (p-q))):=λn a h=>by
 rw[dx,h.ev G,h.ev hy]
 cases k<;>rfl
theorem dB(G:ev l x=some (.int k p)) (hy:ev l y=some (.int k q)):cH P l w ⟨d,.binOp .mul t x y t',ty,pos,af,g⟩ (.int k (k.wrap (p*q))):=λn a h=>by
 rw[dx,h.ev G,h.ev hy]
 cases k<;>rfl
theorem BX(G:ev l x=some (.int k p)) (hy:ev l y=some (.int k q)) (H:k.wrap (p+q)=p+q):cH P l w ⟨d,.binOp .add t x y t',ty,pos,af,g⟩ (.int k (p+q)):=λn a h=>by
 have e:=aw (P:=P) (w:=w) (d:=d) (t:=t) (t':=t') (ty:=ty) (pos:=pos) (af:=af) (g:=g) G hy n a h
 rwa[H]at e
theorem cm(G:ev l x=some (.int k p)) (hy:ev l y=some (.int k q)) (H:q≠0):cH P l w ⟨d,.binOp .quo t x y t',ty,pos,af,g⟩ (.int k (k.wrap (p.tdiv q))):=λn a h=>by
 rw[dx,h.ev G,h.ev hy]
 have e:(binOp .quo t (.int k p) (.int k q)).run P w=.ok (.int k (k.wrap (p.tdiv q))) w:=by
  have J:binOp .quo t (.int k p) (.int k q)=Op.intDiv .quo k p q:=by cases k<;>rfl
  rw[J]
  simp[Op.intDiv,H]
 have e2:eqGuard .quo t x y (.int k p) (.int k q)=pure ():=rfl
 simp[e2,e]
theorem iy(G:ev l x=some (.int k p)) (hy:ev l y=some (.int k q)) (H:q≠0):cH P l w ⟨d,.binOp .rem t x y t',ty,pos,af,g⟩ (.int k (p.tmod q)):=λn a h=>by
 rw[dx,h.ev G,h.ev hy]
 have e:(binOp .rem t (.int k p) (.int k q)).run P w=.ok (.int k (p.tmod q)) w:=by
  have J:binOp .rem t (.int k p) (.int k q)=Op.intDiv .rem k p q:=by cases k<;>rfl
  rw[J]
  simp[Op.intDiv,H]
 have e2:eqGuard .rem t x y (.int k p) (.int k q)=pure ():=rfl
 simp[e2,e]
theorem dI{b:Bool}(G:ev l x=some (.bool b)):cH P l w ⟨d,.unOp .not t x,ty,pos,af,g⟩ (.bool (!b)):=λn a h=>by
 simp[BZ,h.ev G,Op.unary]
theorem lw(G:ev l x=some (.int k p)):cH P l w ⟨d,.unOp .neg t x,ty,pos,af,g⟩ (.int k (k.wrap (-p))):=λn a h=>by
 simp[BZ,h.ev G,Op.unary,Op.intArith]
theorem run_equalIn_bool(m:Nat) (H:P.underlying t=some .bool) (b G:Bool):(Op.equalIn (m+1) t (.bool b) (.bool G)).run P w=.ok (b == G) w:=by
 simp[Op.equalIn,run_underlying H]
theorem vV{α:Type} [BEq α] [LawfulBEq α] [DecidableEq α] (a b:α):(a == b)=decide (a=b):=by
 rw[Bool.eq_iff_iff]
 simp
theorem tL{b G:Bool}(H:P.underlying t=some .bool) (J:ev l x=some (.bool b)) (hy:ev l y=some (.bool G)):cH P l w ⟨d,.binOp .eql t x y t',ty,pos,af,g⟩ (.bool (b == G)):=λn a h=>by
 rw[dx,h.ev J,h.ev hy]
 have e:(Op.equal t (.bool b) (.bool G)).run P w=.ok (b == G) w:=run_equalIn_bool 9999 H b G
 have W:binOp .eql t (.bool b) (.bool G)=(do pure (.bool ((<- Op.equal t (.bool b) (.bool G))))):=rfl
 have e2:eqGuard .eql t x y (.bool b) (.bool G)=pure ():=rfl
 rw[W,e2]
 simp only[Sem.run_bind,Sem.run_pure,Result.andThen_ok,e]
theorem wx{b G:Bool}(H:P.underlying t=some .bool) (J:ev l x=some (.bool b)) (hy:ev l y=some (.bool G)):cH P l w ⟨d,.binOp .neq t x y t',ty,pos,af,g⟩ (.bool (!(b == G))):=λn a h=>by
 rw[dx,h.ev J,h.ev hy]
 have e:(Op.equal t (.bool b) (.bool G)).run P w=.ok (b == G) w:=run_equalIn_bool 9999 H b G
 have W:binOp .neq t (.bool b) (.bool G)=(do pure (.bool (!(<- Op.equal t (.bool b) (.bool G))))):=rfl
 have e2:eqGuard .neq t x y (.bool b) (.bool G)=pure ():=rfl
 rw[W,e2]
 simp only[Sem.run_bind,Sem.run_pure,Result.andThen_ok,e]
theorem aH{m m':List UInt8}(G:ev l x=some (S m)) (hy:ev l y=some (S m')):cH P l w ⟨d,.binOp .eql t x y t',ty,pos,af,g⟩ (.bool (decide (m=m'))):=λn a h=>by
 rw[dx,h.ev G,h.ev hy]
 have H:binOp .eql t (S m) (S m')=Op.stringOp .eql ⟨m.toArray⟩ ⟨m'.toArray⟩:=rfl
 have e2:eqGuard .eql t x y (S m) (S m')=pure ():=rfl
 rw[H,e2]
 simp[Op.stringOp,vV]
theorem oF{m m':List UInt8}(G:ev l x=some (S m)) (hy:ev l y=some (S m')):cH P l w ⟨d,.binOp .neq t x y t',ty,pos,af,g⟩ (.bool (!decide (m=m'))):=λn a h=>by
 rw[dx,h.ev G,h.ev hy]
 have H:binOp .neq t (S m) (S m')=Op.stringOp .neq ⟨m.toArray⟩ ⟨m'.toArray⟩:=rfl
 have e2:eqGuard .neq t x y (S m) (S m')=pure ():=rfl
 rw[H,e2]
 simp[Op.stringOp,vV]
theorem cE{m m':List UInt8}(G:ev l x=some (S m)) (hy:ev l y=some (S m')) (hl:m.length+m'.length<=9223372036854775807):cH P l w ⟨d,.binOp .add t x y t',ty,pos,af,g⟩ (S (m++m')):=λn a h=>by
 rw[dx,h.ev G,h.ev hy]
 have e:(Op.stringOp .add ⟨m.toArray⟩ ⟨m'.toArray⟩).run P w=.ok (.string (⟨m.toArray⟩++⟨m'.toArray⟩)) w:=run_string_add_sum (P:=P) w _ _ (by simpa[ByteArray.size]using hl)
 have H:(⟨m.toArray⟩++⟨m'.toArray⟩:ByteArray)=⟨(m++m').toArray⟩:=by
  apply ByteArray.ext
  simp
 have J:binOp .add t (S m) (S m')=Op.stringOp .add ⟨m.toArray⟩ ⟨m'.toArray⟩:=rfl
 have e2:eqGuard .add t x y (S m) (S m')=pure ():=rfl
 rw[J,e2]
 simp[e,H]
theorem dE{m:List UInt8}{t:TypeId}(G:P.underlying t=some .string) (H:ev l x=some (S m)):cH P l w ⟨d,.call { callee:=.builtin .len,args:=#[x],argTypes:=#[t] },ty,pos,af,g⟩ (.int .i64 m.length):=λn a h=>by
 have e:execOp a.eval ⟨d,.call { callee:=.builtin .len,args:=#[x],argTypes:=#[t] },ty,pos,af,g⟩=Builtin.len_ #[t] ty (#[x].map a.eval) >>= λv=>pure (.value v):=rfl
 rw[e]
 have e2:(⟨m.toArray⟩:ByteArray).size=m.length:=rfl
 simp[h.ev H,Builtin.len_,run_underlying G,goInt,e2]
theorem gi{m:List UInt8}(H:P.underlying t=some .string) (J:ev l x=some (S m)) (hy:ev l y=some (.int k p)) (W:0<=p/\p<m.length):cH P l w ⟨d,.index t x y,ty,pos,af,g⟩ (.int .u8 (bt m p)):=λn a h=>by
 obtain⟨X,Y⟩:=W
 have hlt:p.toNat<m.length:=by omega
 have G:p.toNat<(⟨m.toArray⟩:ByteArray).size:=by simpa[ByteArray.size]using hlt
 have e:(⟨m.toArray⟩:ByteArray)[p.toNat]?=some (m[p.toNat]):=by
  rw[ByteArray.getElem?_lt' _ _ G]
  rfl
 rw[uF,h.ev J,h.ev hy]
 simp[Instr.index,asIntOf,run_underlying H,X,e,bt,List.getD,hlt]
theorem kI(m:List UInt8) (lo hi:Nat):(⟨m.toArray⟩:ByteArray).extract lo hi=⟨((m.take hi).drop lo).toArray⟩:=by
 apply ByteArray.ext
 apply Array.toList_inj.1
 simp[List.drop_take]
theorem jm{v:Value}{lo hi:Option Value}(G:P.underlying t=some .string):((Instr.sliceAt t v lo hi none) >>= λv=>(pure (.value v):Sem Next)).run P w=((Instr.slice t v lo hi none) >>= λv=>(pure (.value v):Sem Next)).run P w:=by
 simp[Instr.sliceAt,run_underlying G]
theorem u_{m:List UInt8}{lo hi:Operand}{H J:IntKind}(G:P.underlying t=some .string) (W:ev l x=some (S m)) (X:ev l lo=some (.int H p)) (Y:ev l hi=some (.int J q)) (hb:0<=p/\p<=q/\q<=m.length) :
 cH P l w ⟨d,.slice t x (some lo) (some hi) none,ty,pos,af,g⟩ (S (i_ m p q)):=λn a h=>by
 obtain⟨b0,b1,b2⟩:=hb
 have e:execOp a.eval ⟨d,.slice t x (some lo) (some hi) none,ty,pos,af,g⟩=Instr.sliceAt t (a.eval x) (some (a.eval lo)) (some (a.eval hi)) none >>= λv=>pure (.value v):=rfl
 have e2:(⟨m.toArray⟩:ByteArray).size=m.length:=rfl
 rw[e,h.ev W,h.ev X,h.ev Y,jm G]
 simp[Instr.slice,run_underlying G,Instr.sliceBounds,Instr.sliceBound,asIntOf,e2,b0,b1,b2,i_,kI,show 0<=q by omega]
 intro hh
 exfalso
 omega
theorem lm{m:List UInt8}{hi:Operand}{H:IntKind}(G:P.underlying t=some .string) (J:ev l x=some (S m)) (W:ev l hi=some (.int H q)) (X:0<=q/\q<=m.length) :
 cH P l w ⟨d,.slice t x none (some hi) none,ty,pos,af,g⟩ (S (i_ m 0 q)):=λn a h=>by
 obtain⟨Y,b1⟩:=X
 have e:execOp a.eval ⟨d,.slice t x none (some hi) none,ty,pos,af,g⟩=Instr.sliceAt t (a.eval x) none (some (a.eval hi)) none >>= λv=>pure (.value v):=rfl
 have e2:(⟨m.toArray⟩:ByteArray).size=m.length:=rfl
 rw[e,h.ev J,h.ev W,jm G]
 simp[Instr.slice,run_underlying G,Instr.sliceBounds,Instr.sliceBound,asIntOf,e2,Y,b1,i_,kI]
theorem pG{m:List UInt8}{lo:Operand}{H:IntKind}(G:P.underlying t=some .string) (J:ev l x=some (S m)) (W:ev l lo=some (.int H p)) (X:0<=p/\p<=m.length) :
 cH P l w ⟨d,.slice t x (some lo) none none,ty,pos,af,g⟩ (S (i_ m p m.length)):=λn a h=>by
 obtain⟨Y,b1⟩:=X
 have e:execOp a.eval ⟨d,.slice t x (some lo) none none,ty,pos,af,g⟩=Instr.sliceAt t (a.eval x) (some (a.eval lo)) none none >>= λv=>pure (.value v):=rfl
 have e2:(⟨m.toArray⟩:ByteArray).size=m.length:=rfl
 rw[e,h.ev J,h.ev W,jm G]
 simp[Instr.slice,run_underlying G,Instr.sliceBounds,Instr.sliceBound,asIntOf,e2,Y,b1,i_,kI]
theorem jb{G:Array Value}{i:Nat}(J:ev l x=some (.tuple G)) (hi:G.toList[i]?=some V):cH P l w ⟨d,.extract x i,ty,pos,af,g⟩ V:=λn a h=>by
 have H:G[i]?=some V:=by simpa using hi
 have e:execOp a.eval ⟨d,.extract x i,ty,pos,af,g⟩=Instr.extract (a.eval x) i >>= λv=>pure (.value v):=rfl
 rw[e,h.ev J]
 simp[Instr.extract,H]
theorem db(J:(P.underlying t).isSome=true) (G:P.underlying t'=some (.int k')) (W:ev l x=some (.int k p)) (X:k'.wrap p=q):cH P l w ⟨d,.convert t t' x,ty,pos,af,g⟩ (.int k' q):=λn a h=>by
 have e:execOp a.eval ⟨d,.convert t t' x,ty,pos,af,g⟩=convert t t' (a.eval x) >>= λv=>pure (.value v):=rfl
 rw[e,h.ev W]
 obtain⟨d0,H⟩:=Option.isSome_iff_exists.mp J
 simp[convert,run_underlying H,run_underlying G,Conv.intToInt,X]
end
end Go.Stp
end
section
namespace Go.Stp
open Go.RowKit
def Ext(w w':World):Prop:=Below w.heap.size w w'
theorem Ext.refl(w:World):Ext w w:=Below.refl _ _
theorem Ext.trans{a b c:World}(h:Ext a b) (k:Ext b c):Ext a c:=Below.trans h (Below.mono k h.size)
theorem Ext.block{w w':World}(h:Ext w w'){b:Nat}{o:Obj}(G:w.heap[b]?=some o):w'.heap[b]?=some o:=by
 rw[Below.block h b (Array.getElem?_eq_some_iff.1 G).1]
 exact G
theorem Ext.alloc(w:World) (o:Obj):Ext w (w.alloc o):=(Below.refl _ _).alloc (Nat.le_refl _) o
theorem Ext.drew(w:World):Ext w w.drew:=(Below.refl _ _).drew
theorem Ext.size{w w':World}(h:Ext w w'):w.heap.size<=w'.heap.size:=Below.size h
abbrev aB(cs:List Value) (e:TypeId):Obj:=.cells cs.toArray e (0,0)
inductive Own where
 |blk (b:Nat) (o:Obj)
 |row (e:TypeId) (sz:Nat) (v:Value) (n:Nat) (xs:List Value)
def Own.at(o:Own):Option Nat:=match o with
 |.blk b _=>some b
 |.row _ _ v _ _=>v.ownBlock
def Own.holds(o:Own) (w:World):Prop:=match o with
 |.blk b ob=>w.heap[b]?=some ob
 |.row e sz v n xs=>w.ownsRow 0 e sz v n xs
theorem Own.jv{o:Own}{w:World}(h:o.holds w):∀b,o.at=some b->b<w.heap.size:=by
 intro b G
 cases o with
 |blk H ob=>
  simp only[Own.at,Option.some.injEq]at G
  subst G
  exact(Array.getElem?_eq_some_iff.1 h).1
 |row e sz v n xs=>exact(World.ownsRow.lt h b G).2
theorem Own.mS{o:Own}{w w':World}(h:o.holds w) (hs:∀b,o.at=some b->w'.heap[b]?=w.heap[b]?):o.holds w':=by
 cases o with
 |blk b ob=>exact(hs b O).trans h
 |row e sz v n xs=>
  refine⟨h.1,?_⟩
  rcases h.2 with H|⟨g,cap,G,rfl,J,W,rest⟩
  ·exact .inl H
  ·exact .inr ⟨g,cap,G,O,J,by rw[hs g rfl];exact W,rest⟩
structure Bs where
 w:World
 L:List Nat
abbrev Bs.heap(B:Bs):Array Obj:=B.w.heap
instance:Coe World Bs:=⟨λw=>⟨w,[]⟩⟩
structure ExtB (B:Bs) (w':World):Prop where
 os:w'.os=B.w.os
 tape:w'.tape=B.w.tape
 output:w'.output=B.w.output
 size:B.w.heap.size<=w'.heap.size
 block:∀k,k<B.w.heap.size->k ∉ B.L->w'.heap[k]?=B.w.heap[k]?
theorem ExtB.ext{B:Bs}{w w':World}(h:ExtB B w) (X:Ext w w'):ExtB B w':=
 ⟨X.os.trans h.os,X.tape.trans h.tape,X.output.trans h.output,Nat.le_trans h.size X.size,λk G H=>(Below.block X k (Nat.lt_of_lt_of_le G h.size)).trans (h.block k G H)⟩
theorem ExtB.none{w w':World}(h:ExtB w w'):Ext w w':=⟨h.os,h.tape,h.output,h.size,λk G=>h.block k G (by simp)⟩
theorem ExtB.of{B:Bs}{w':World}(X:Ext B.w w'):ExtB B w':=⟨X.os,X.tape,X.output,Ext.size X,λk G _=>Below.block X k G⟩
theorem ExtB.refl(B:Bs):ExtB B B.w:=.of (Ext.refl _)
structure Hp (w0:Bs) (hl:List Own) (w:World):Prop where
 below:ExtB w0 w
 own:∀(i:Nat) (o:Own),hl[i]?=some o->o.holds w
 lo:∀(i:Nat) (o:Own),hl[i]?=some o->∀b,o.at=some b->w0.heap.size<=b\/b∈w0.L
 apart:∀(i j:Nat) (o o':Own),hl[i]?=some o->hl[j]?=some o'->i≠j->∀b,o.at=some b->o'.at≠some b
theorem Hp.uY(w0:Bs):Hp w0 [] w0.w:=⟨ExtB.refl _,λi o h=>by simp at h,λi o h=>by simp at h,λi j o o' h=>by simp at h⟩
theorem Hp.start(w:World):Hp w [] w:=Hp.uY w
theorem Hp.a_{w0:Bs}{w:World}{hl:List Own}(H:Hp w0 hl w):ExtB w0 w:=H.below
theorem Hp.out{w0 w:World}{hl:List Own}(H:Hp w0 hl w):Ext w0 w:=H.below.none
theorem Hp.ext{w0:Bs}{w w':World}{hl:List Own}(H:Hp w0 hl w) (h:Ext w w'):Hp w0 hl w':=
 ⟨H.below.ext h,λi o e=>Own.mS (H.own i o e) λb G=>Below.block h b (Own.jv (H.own i o e) b G),H.lo,H.apart⟩
theorem Hp.get{w0:Bs}{w:World}{hl:List Own}(H:Hp w0 hl w) (i:Nat){b:Nat}{o:Obj}(h:hl[i]?=some (.blk b o)):w.heap[b]?=some o:=H.own i _ h
theorem Hp.eT{w0:Bs}{w:World}{hl:List Own}(H:Hp w0 hl w) (i:Nat){e:TypeId}{sz n:Nat}{v:Value}{xs:List Value}(h:hl[i]?=some (.row e sz v n xs)):w.ownsRow 0 e sz v n xs:=H.own i _ h
theorem Hp.push{w0:Bs}{w w':World}{hl:List Own}(H:Hp w0 hl w) (h:Ext w w') (o:Own) (ho:o.holds w') (W:∀b,o.at=some b->w.heap.size<=b):Hp w0 (hl++[o]) w':=by
 have J:=H.ext h
 have key:∀(i:Nat) (x:Own),(hl++[o])[i]?=some x->(hl[i]?=some x/\i<hl.length)\/(i=hl.length/\x=o):=by
  intro i x e
  rw[List.getElem?_append]at e
  split at e
  ·exact .inl ⟨e,by assumption⟩
  · rename_i a1
    have:i-hl.length=0:=by
     have:=(List.getElem?_eq_some_iff.1 e).1
     simp at this
     omega
    rw[this]at e
    simp at e
    exact .inr ⟨by omega,e.symm⟩
 refine⟨J.below,λi x e=>?_,λi x e b G=>?_,λi j x y hx hy X b G=>?_⟩
 · rcases key i x e with⟨e,_⟩|⟨_,rfl⟩
   ·exact J.own i x e
   ·exact ho
 · rcases key i x e with⟨e,_⟩|⟨_,rfl⟩
   ·exact J.lo i x e b G
   · have:=W b G
     have:=H.below.size
     exact .inl (by show w0.w.heap.size<=b;omega)
 · rcases key i x hx with⟨Y,_⟩|⟨ei,rfl⟩<;>rcases key j y hy with⟨ey,_⟩|⟨ej,rfl⟩
   ·exact J.apart i j x y Y ey X b G
   · intro e
     have h1:=Own.jv (H.own i x Y) b G
     have h2:=W b e
     omega
   · intro e
     have h1:=Own.jv (H.own j y ey) b e
     have h2:=W b G
     omega
   ·omega
theorem Hp.turn{w0:Bs}{w w':World}{hl:List Own}(H:Hp w0 hl w) (i:Nat){o:Own}(hi:hl[i]?=some o) (o':Own) (ho:o'.holds w')
 (a8:w'.os=w.os) (X:w'.tape=w.tape) (a6:w'.output=w.output) (ad:w.heap.size<=w'.heap.size)
 (G:∀b,b<w.heap.size->o.at≠some b->w'.heap[b]?=w.heap[b]?) (Y:∀b,o'.at=some b->o.at=some b\/w.heap.size<=b):Hp w0 (hl.set i o') w':=by
 have ao:i<hl.length:=(List.getElem?_eq_some_iff.1 hi).1
 have W:∀(j:Nat) (x:Own),(hl.set i o')[j]?=some x->(j≠i/\hl[j]?=some x)\/(j=i/\x=o'):=by
  intro j x e
  by_cases h:j=i
  · subst h
    rw[List.getElem?_set_self ao]at e
    exact .inr ⟨O,(Option.some.inj e).symm⟩
  · rw[List.getElem?_set_ne (λe=>h e.symm)]at e
    exact .inl ⟨h,e⟩
 refine⟨⟨a8.trans H.below.os,X.trans H.below.tape,a6.trans H.below.output,Nat.le_trans H.below.size ad,λk hk hn=>?_⟩,λj x e=>?_,λj x e b J=>?_,λj m x y hx hy a1 b J=>?_⟩
 · refine(G k (Nat.lt_of_lt_of_le hk H.below.size) λe=>?_).trans (H.below.block k hk hn)
   rcases H.lo i o hi k e with h|h
   · have:w0.w.heap.size<=k:=h
     omega
   ·exact hn h
 · rcases W j x e with⟨a7,e⟩|⟨_,rfl⟩
   · refine Own.mS (H.own j x e) λb J=>G b (Own.jv (H.own j x e) b J) λe2=>?_
     exact H.apart j i x o e hi a7 b J e2
   ·exact ho
 · rcases W j x e with⟨a7,e⟩|⟨_,rfl⟩
   ·exact H.lo j x e b J
   · rcases Y b J with h|h
     ·exact H.lo i o hi b h
     · have:=H.below.size
       exact .inl (by show w0.w.heap.size<=b;omega)
 · rcases W j x hx with⟨b0,ex⟩|⟨rfl,rfl⟩<;>rcases W m y hy with⟨b1,ey⟩|⟨rfl,rfl⟩
   ·exact H.apart j m x y ex ey a1 b J
   · intro e
     rcases Y b e with h1|h1
     ·exact H.apart j m x o ex hi a1 b J h1
     · have:=Own.jv (H.own j x ex) b J
       omega
   · intro e
     rcases Y b J with h1|h1
     ·exact H.apart j m o y hi ey a1 b h1 e
     · have:=Own.jv (H.own m y ey) b e
       omega
   ·omega
section
variable {P:Program}{ops:Array Oper}{Q:Exit->Act->World->Prop}{rest:List Oper}{n:Nm}{dn:Nat}{l:List (Nat × Value)}{a:Act}{w:World}{w0:Bs}{hl:List Own}
 {d:Option Nat}{x y c u v:Operand}{t t' ty:TypeId}{pos:String}{af:Array Edge}{g:Option (Nat × Bool)}{V V':Value}{cs:List Value}{e:TypeId}{b off:Nat}{fz:Nat × Nat}
theorem gx{w:World}{b j:Nat}{cs:List Value}{e:TypeId}{fz:Nat × Nat}(G:w.heap[b]?=some (.cells cs.toArray e fz)):w.cell? ⟨b,j,none⟩=cs[j]?:=by
 simp[World.cell?,G]
theorem aE(G:ev l x=some (.pointer (some ⟨b,off,none⟩))) (H:∀w,(isAgg t).run P w=.ok false w) (J:w.heap[b]?=some (.cells cs.toArray e fz)) (W:cs[off]?=some V) :
 cH P l w ⟨d,.load t x,ty,pos,af,g⟩ V:=λn a h=>by
 have X:execOp a.eval ⟨d,.load t x,ty,pos,af,g⟩=Instr.loadAt t (a.eval x) >>= λv=>pure (.value v):=rfl
 rw[X,h.ev G]
 simp[Instr.loadAt,Instr.sureAddr,loadVar,H,gx J,W]
theorem qW{cs G:List Value}{off k:Nat}(h:(cs.drop off).take k=G):∀j u,G[j]?=some u->cs[off+j]?=some u:=by
 intro j u hu
 subst h
 rw[List.getElem?_take]at hu
 split at hu
 ·simpa using hu
 ·cases hu
theorem kS{k:Nat}{G:List Value}(H:∀w,(isAgg t).run P w=.ok true w) (hs:∀w,(sizeOf t).run P w=.ok k w) (J:w.heap[b]?=some (.cells cs.toArray e fz)) (W:(cs.drop off).take k=G) (X:G.length=k) :
 (loadVar t ⟨b,off,none⟩).run P w=.ok (.agg G.toArray) w:=by
 have hl:=run_loadCells_list (P:=P) (w:=w) ⟨b,off,none⟩ G (λj u Y=>by
  rw[Addr.add_lit,gx J]
  exact qW W j u Y)
 rw[X]at hl
 simp[loadVar,H,hs,hl]
theorem oQ(G:∀w,(isAgg t).run P w=.ok false w) (H:w.heap[b]?=some (.cells cs.toArray e fz)) (J:cs[off]?=some V) :
 (loadVar t ⟨b,off,none⟩).run P w=.ok V w:=by
 simp[loadVar,G,gx H,J]
theorem dL{k:Nat}(G:List Value) (H:ev l x=some (.pointer (some ⟨b,off,none⟩))) (J:∀w,(isAgg t).run P w=.ok true w) (hs:∀w,(sizeOf t).run P w=.ok k w) (W:w.heap[b]?=some (.cells cs.toArray e fz))
 (X:(cs.drop off).take k=G) (Y:G.length=k):cH P l w ⟨d,.load t x,ty,pos,af,g⟩ (.agg G.toArray):=λn a h=>by
 have e1:execOp a.eval ⟨d,.load t x,ty,pos,af,g⟩=Instr.loadAt t (a.eval x) >>= λv=>pure (.value v):=rfl
 rw[e1,h.ev H]
 simp[Instr.loadAt,Instr.sureAddr,kS J hs W X Y]
theorem yX(h:Fr n l a) (H:Hp w0 hl w){z:Value}(hz:∀w,(zeroValue e).run P w=.ok z w) (G:List Value) (J:z.cells.toList=G) (hd:Nat.blt dn n.n=true)
 (k:∀X b w',w.heap.size<=b->Ext w w'->Hp w0 (hl++[.blk b (aB G e)]) w'->Fr n ((dn,.pointer (some ⟨b,0,none⟩))::l) X->wpList P ops Q rest X w') :
 wpList P ops Q (⟨some dn,.alloc e,ty,pos,af,none⟩::rest) a w:=by
 refine wpList_plain O λK Y=>?_
 have W:z.cells=G.toArray:=by rw[<-J]
 have e1:execOp a.eval ⟨some dn,.alloc e,ty,pos,af,none⟩=Instr.alloc e true (.tuple #[]) >>= λv=>pure (.value v):=rfl
 have e2:(execOp a.eval ⟨some dn,.alloc e,ty,pos,af,none⟩).run P w=.ok (.value (.pointer (some ⟨w.heap.size,0,none⟩))) (w.alloc (aB G e)):=by
  rw[e1]
  simp[Instr.alloc,hz,newVar,newRow,W]
 unfold Oper.wp
 rw[e2]
 refine Y _ _ (k _ w.heap.size _ (Nat.le_refl _) (Ext.alloc _ _) (H.push (Ext.alloc _ _) _ ?_ (λb hb=>by simp only[Own.at,Option.some.injEq]at hb;omega)) (h.put hd _))
 exact heap_alloc_new w _
theorem CI(h:Fr n l a) (H:Hp w0 hl w) (Y:ev l x=some V) (G:List Value) (J:V.cells.toList=G) (hd:Nat.blt dn n.n=true)
 (k:∀X b w',w.heap.size<=b->Ext w w'->Hp w0 (hl++[.blk b (aB G e)]) w'->Fr n ((dn,.pointer (some ⟨b,0,none⟩))::l) X->wpList P ops Q rest X w') :
 wpList P ops Q (⟨some dn,.box e x,ty,pos,af,none⟩::rest) a w:=by
 refine wpList_plain O λK hK=>?_
 have W:V.cells=G.toArray:=by rw[<-J]
 have e1:execOp a.eval ⟨some dn,.box e x,ty,pos,af,none⟩=Instr.box e (a.eval x) >>= λv=>pure (.value v):=rfl
 have e2:(execOp a.eval ⟨some dn,.box e x,ty,pos,af,none⟩).run P w=.ok (.value (.pointer (some ⟨w.heap.size,0,none⟩))) (w.alloc (aB G e)):=by
  rw[e1,h.ev Y]
  simp[Instr.box,newVar,newRow,W]
 unfold Oper.wp
 rw[e2]
 refine hK _ _ (k _ w.heap.size _ (Nat.le_refl _) (Ext.alloc _ _) (H.push (Ext.alloc _ _) _ ?_ (λb hb=>by simp only[Own.at,Option.some.injEq]at hb;omega)) (h.put hd _))
 exact heap_alloc_new w _
def allOne:List Value->Bool
 |[]=>true
 |v::G=>v.oneCell'&&allOne G
theorem ge:∀{G:List Value},allOne G=true->∀u∈G,u.oneCell'=true
 |v::G,h,u,H=>by
  simp only[allOne,Bool.and_eq_true]at h
  cases H with
  |head=>exact h.1
  |tail _ H=>exact ge h.2 u H
def putAt(cs:List Value) (off:Nat) (G:List Value):List Value:=cs.take off++G++cs.drop (off+G.length)
theorem dw(g o:Nat) (t:TypeId):∀(H:List Value) (i:Nat) (G:List Value) (w:World),w.heap[g]?=some (.cells G.toArray t (0,0))->o+i+H.length<=G.length->(∀v∈H,v.oneCell'=true)->
 ∃w',(storeCells ⟨g,o,none⟩ H i).run P w=.ok () w'/\w'.heap[g]?=some (.cells (putAt G (o+i) H).toArray t (0,0))/\w'.os=w.os/\w'.tape=w.tape/\w'.output=w.output/\w'.heap.size=w.heap.size/\∀b,b≠g->w'.heap[b]?=w.heap[b]?
 |[],i,G,w,hg,_,_=>⟨w,by simp[storeCells],by simpa[putAt]using hg,rfl,rfl,rfl,rfl,λ_ _=>rfl⟩
 |v::H,i,G,w,hg,W,h1=>by
  simp only[List.length_cons]at W
  have hc:w.cell? ⟨g,o+i,none⟩=G[o+i]?:=gx hg
  have J:o+i<G.length:=by omega
  have X:w.frozen? ⟨g,o+i,none⟩=false:=by simp[World.frozen?,hg]
  have Y:(w.setCell ⟨g,o+i,none⟩ v).heap[g]?=some (.cells (G.set (o+i) v).toArray t (0,0)):=by
   simp[World.setCell,Array.getElem?_modify,hg]
  obtain⟨w',hr,hh,r1,r2,r3,r4,r5⟩:=dw g o t H (i+1) (G.set (o+i) v) (w.setCell ⟨g,o+i,none⟩ v) Y (by simp;omega) (λu hu=>h1 u (by simp[hu]))
  refine⟨w',?_,?_,r1,r2,r3,by simpa using r4,λb hb=>?_⟩
  · simp only[storeCells,Sem.run_bind,Addr.add_lit,run_store P w ⟨g,o+i,none⟩ v .plain (h1 v (by simp)),hc,X,List.getElem?_eq_getElem J,Bool.false_eq_true,if_false,Result.andThen_ok]
    exact hr
  · rw[hh]
    have:putAt (G.set (o+i) v) (o+(i+1)) H=putAt G (o+i) (v::H):=by
     simp only[putAt,List.length_cons]
     have e1:o+(i+1)=(o+i)+1:=by omega
     rw[e1,List.take_add_one,List.take_set_of_le (Nat.le_refl _),List.getElem?_set_self J]
     have e2:o+i+1+H.length=o+i+(H.length+1):=by omega
     rw[e2,List.drop_set_of_lt (by omega)]
     simp
    rw[this]
  · rw[r5 b hb]
    simp only[World.setCell,Array.getElem?_modify]
    rw[if_neg (λe=>hb e.symm)]
theorem yG(h:Fr n l a) (H:Hp w0 hl w) (i:Nat) (hx:ev l x=some (.pointer (some ⟨b,off,none⟩))) (hy:ev l y=some V) (hi:hl[i]?=some (.blk b (aB cs e)))
 {k:Nat}(hs:∀w,(sizeOf t).run P w=.ok k w) (J:List Value) (W:V.cells.toList=J) (hk:J.length=k) (h1:allOne J=true) (a7:off+k<=cs.length)
 (cs':List Value) (X:putAt cs off J=cs'){hl':List Own}(Y:hl.set i (.blk b (aB cs' e))=hl')
 (kk:∀w',Hp w0 hl' w'->w'.heap.size=w.heap.size->(∀G,G≠b->w'.heap[G]?=w.heap[G]?)->wpList P ops Q rest a w') :
 wpList P ops Q (⟨none,.store t x y,ty,pos,af,none⟩::rest) a w:=by
 refine wpList_plain O λK hK=>?_
 have a1:V.cells.size=k:=by rw[<-hk,<- W];simp
 have e1:execOp a.eval ⟨none,.store t x y,ty,pos,af,none⟩=Instr.storeAt t (a.eval x) (a.eval y) >>= λ_=>pure .skip:=rfl
 obtain⟨w',hr,hh,r1,r2,r3,r4,r5⟩:=dw (P:=P) b off e J 0 cs w (H.get i hi) (by omega) (ge h1)
 have e2:(execOp a.eval ⟨none,.store t x y,ty,pos,af,none⟩).run P w=.ok .skip w':=by
  rw[e1,h.ev hx,h.ev hy]
  simp[Instr.storeAt,Instr.sureAddr,storeVar,hs,a1,W,hr]
 unfold Oper.wp
 rw[e2]
 subst Y
 rw[Nat.add_zero,X]at hh
 refine hK _ _ (kk w' (H.turn i hi (.blk b (aB cs' e)) hh r1 r2 r3 (by omega) (λG _ a6=>r5 G (λe=>a6 (by rw[e];rfl))) (λG hb'=>.inl (by simpa[Own.at]using hb'))) r4 r5)
theorem ab{H:Array Field}{f:Field}{i k G:Nat}(X:ev l x=some (.pointer (some ⟨b,off,none⟩))) (Y:P.underlying t=some (.struct H)) (hf:H.toList[i]?=some f)
 (hs:∀w,(sizeOf f.type).run P w=.ok k w) (hk:Nat.ble 1 k=true) (ho:off+f.offset=G):cH P l w ⟨d,.fieldAddr t x i,ty,pos,af,g⟩ (.pointer (some ⟨b,G,none⟩)):=λn a h=>by
 have e1:execOp a.eval ⟨d,.fieldAddr t x i,ty,pos,af,g⟩=Instr.fieldAt t (a.eval x) i >>= λv=>pure (.value v):=rfl
 have J:H[i]?=some f:=by simpa using hf
 have W:k≠0:=by
  have:=Nat.ble_eq▸hk
  have:1<=k:=by simpa[Nat.ble_eq]using hk
  omega
 rw[e1,h.ev X]
 simp[Instr.fieldAt,run_underlying Y,J,Instr.sureAddr,fieldPlace,hs,W,Addr.add_lit,ho]
theorem j7{G:Array Field}{f:Field}{i k:Nat}{H:Array Value}(us:List Value) (X:ev l x=some (.agg H)) (Y:P.underlying t=some (.struct G)) (hf:G.toList[i]?=some f)
 (ha:∀w,(isAgg f.type).run P w=.ok true w) (hs:∀w,(sizeOf f.type).run P w=.ok k w) (hc:(H.toList.drop f.offset).take k=us):cH P l w ⟨d,.field t x i,ty,pos,af,g⟩ (.agg us.toArray):=λn a h=>by
 have e1:execOp a.eval ⟨d,.field t x i,ty,pos,af,g⟩=Instr.field t (a.eval x) i >>= λv=>pure (.value v):=rfl
 have J:G[i]?=some f:=by simpa using hf
 have W:H.extract f.offset (f.offset+k)=us.toArray:=by
  apply Array.toList_inj.1
  rw[<-hc]
  simp[List.take_drop]
 rw[e1,h.ev X]
 simp[Instr.field,run_underlying Y,J,asAgg,part,ha,hs,W]
def cR(P:Program) (t:TypeId) (pl:List (Nat × Nat)) (z:List Value):Prop:=
 ∀w (parts:Array (Nat × Value)) cells,Instr.fill (pl.toArray[·]?) z.toArray parts.toList=some cells->(Instr.build t parts).run P w=.ok (.agg cells) w
theorem cR.mk{W:Array Field}{z:Value}{pl:List (Nat × Nat)}{G:List Value}(X:P.underlying t=some (.struct W)) (hz:∀w,(zeroValue t).run P w=.ok z w) (H:z.cells.toList=G)
 (hp:∀w,(W.mapM λf=>(do pure (f.offset,<- sizeOf f.type):Sem (Nat × Nat))).run P w=.ok pl.toArray w):cR P t pl G:=by
 intro w parts cells h
 have J:z.cells=G.toArray:=by rw[<-H]
 simp only[Instr.build,Sem.run_bind,hz,Result.andThen_ok,run_underlying X,hp,J]
 rw[h]
 simp
def me(G:List (Nat × Nat)):List Value->List (Nat × Value)->Option (List Value)
 |cs,[]=>some cs
 |cs,(i,v)::r=>match G[i]? with
  |none=>none
  |some (off,size)=>bif Nat.beq v.cells.toList.length size&&Nat.ble (off+v.cells.toList.length) cs.length then me G (putAt cs off v.cells.toList) r else none
theorem rf(o:Nat):∀(us:List Value) (m:Nat) (G:List Value),o+m+us.length<=G.length->(us.zipIdx m).foldl (λ(cs:Array Value) (q:Value × Nat)=>cs.setIfInBounds (o+q.2) q.1) G.toArray=(putAt G (o+m) us).toArray
 |[],m,G,_=>by simp[putAt]
 |u::us,m,G,h=>by
  simp only[List.length_cons]at h
  simp only[List.zipIdx_cons,List.foldl_cons]
  have H:G.toArray.setIfInBounds (o+m) u=(G.set (o+m) u).toArray:=by simp
  rw[H,rf o us (m+1) (G.set (o+m) u) (by simp;omega)]
  congr 1
  simp only[putAt,List.length_cons]
  have e2:o+(m+1)=(o+m)+1:=by omega
  rw[e2,List.take_add_one,List.take_set_of_le (Nat.le_refl _),List.getElem?_set_self (by omega)]
  have J:o+m+1+us.length=o+m+(us.length+1):=by omega
  rw[J,List.drop_set_of_lt (by omega)]
  simp
theorem jZ(pl:List (Nat × Nat)):∀(J:List (Nat × Value)) (cs out:List Value),me pl cs J=some out->Instr.fill (pl.toArray[·]?) cs.toArray J=some out.toArray
 |[],cs,out,h=>by
  simp only[me,Option.some.injEq]at h
  subst h
  rfl
 |(i,v)::r,cs,out,h=>by
  simp only[me]at h
  split at h
  ·cases h
  · rename_i off size hp
    cases G:(Nat.beq v.cells.toList.length size&&Nat.ble (off+v.cells.toList.length) cs.length)with
    |false=>rw[G]at h;cases h
    |true=>
     rw[G]at h
     simp only[cond_true]at h
     simp only[Bool.and_eq_true,Nat.beq_eq,Nat.ble_eq]at G
     obtain⟨h1,h2⟩:=G
     have W:=jZ pl r _ _ h
     have H:pl.toArray[i]?=some (off,size):=by simpa using hp
     have hs:v.cells.size=size:=by simpa using h1
     have hle:off+v.cells.size<=cs.length:=by simpa using h2
     have X:∀(us:Array Value) (f:Array Value->Value × Nat->Array Value) (s:Array Value),us.zipIdx.foldl f s=us.toList.zipIdx.foldl f s:=by
      intro us f s
      obtain⟨ul⟩:=us
      have Y:ul.toArray.zipIdx.foldl f s=ul.zipIdx.foldl f s:=by simp[<-Array.foldl_toList]
      exact Y
     simp only[Instr.fill,H]
     have h3:¬((v.cells.size≠size||off+v.cells.size > cs.toArray.size)=true):=by simp[hs];omega
     simp only[h3,if_false,Bool.false_eq_true]
     rw[X,rf off v.cells.toList 0 cs (by simpa using hle)]
     exact W
theorem aS{J:List (Nat × Nat)}{z:List Value}{G:Array (Nat × Operand)}(W:cR P t J z) (us cells:List Value)
 (H:nI l (G.toList.map (·.2))=some us) (X:me J z ((G.toList.map (·.1)).zip us)=some cells) :
 cH P l w ⟨d,.build t G,ty,pos,af,g⟩ (.agg cells.toArray):=λn a h=>by
 have Y:execOp a.eval ⟨d,.build t G,ty,pos,af,g⟩=Instr.build t (G.map λ(i,x)=>(i,a.eval x)) >>= λv=>pure (.value v):=rfl
 have hp:=h.nI H
 have:(G.map λ(i,x)=>(i,a.eval x)).toList=(G.toList.map (·.1)).zip us:=by
  rw[<-hp]
  simp only[Array.toList_map]
  induction G.toList with
  |nil=>rfl
  |cons q qs ih=>simp[ih]
 rw[Y]
 simp[W w _ _ (by rw[this];exact jZ _ _ _ _ X)]
theorem fp{l:List (Nat × Value)}{x:Operand}{xs:List Operand}{v:Value}{G:List Value}(H:ev l x=some v) (J:nI l xs=some G):nI l (x::xs)=some (v::G):=by
 simp[nI,H,J]
theorem iH{l:List (Nat × Value)}:nI l []=some []:=rfl
theorem fM{f:FuncId}{xs:Array Operand}{ats:Array TypeId}(G:List Value){R:Value->World->Prop}(J:nI l xs.toList=some G) (W:∀as w,(callFunc f as).run P w=.ok (.enter f as) w)
 (X:Calls P f G.toArray w (bj R)):dt P l w ⟨d,.call { callee:=.value (.func f),args:=xs,argTypes:=ats },ty,pos,af,g⟩ R:=λn a h K Q Y=>by
 have e1:execOp a.eval ⟨d,.call { callee:=.value (.func f),args:=xs,argTypes:=ats },ty,pos,af,g⟩=callFunc f (#[]++xs.map a.eval++#[]):=rfl
 have e2:(#[]++xs.map a.eval++#[]:Array Value)=G.toArray:=by rw[h.wO J];simp
 unfold Oper.wp
 rw[e1,e2,W]
 exact X.mono λe w' H=>by
  cases e with
  |returned v=>exact Y v w' H
  |panicked _=>exact H.elim
  |outgrown=>exact H.elim
theorem wq{f:FuncId}{xs:Array Operand}{ats:Array TypeId}{fst cap:Array Value}(H:List Value){R:Value->World->Prop}(J:ev l x=some (.func (.func f) fst cap)) (W:nI l xs.toList=some H)
 (X:∀as w,(callFunc f as).run P w=.ok (.enter f as) w) (as:List Value) (has:fst.toList++H++cap.toList=as)
 (Y:Calls P f as.toArray w (bj R)):dt P l w ⟨d,.call { callee:=.value x,args:=xs,argTypes:=ats },ty,pos,af,g⟩ R:=λn a h K Q hk=>by
 have e1:execOp a.eval ⟨d,.call { callee:=.value x,args:=xs,argTypes:=ats },ty,pos,af,g⟩=(do let d <- Deferred.ofValue (a.eval x) (xs.map a.eval);invoke d.target d.args):=rfl
 have e3:((do let d <- Deferred.ofValue (a.eval x) (xs.map a.eval);invoke d.target d.args):Sem Next).run P w=.ok (.enter f as.toArray) w:=by
  rw[h.ev J,h.wO W]
  simp only[Deferred.ofValue,Sem.run_bind,Sem.run_pure,Result.andThen_ok,invoke,X]
  subst has
  simp
 unfold Oper.wp
 rw[e1,e3]
 exact Y.mono λe w' G=>by
  cases e with
  |returned v=>exact hk v w' G
  |panicked _=>exact G.elim
  |outgrown=>exact G.elim
end
section
variable {P:Program}{fn:Func}{R:Value->World->Prop}{n:Nm}{l:List (Nat × Value)}{a:Act}{w:World}
theorem Dd{r:ResultVar}{v:Value}(h:Fr n l a) (H:fn.results=#[r]) (J:RV P l w r v) (W:R v w) (G:n.ds=[]:=by rfl):Out P fn R a w:=by
 refine⟨h.defers.trans G,v,?_,W⟩
 have:=J.run h
 cases r<;>simpa[results,H]using this
def rd(tmps:Array Value):ResultVar->Sem Value
 |.tmp t=>pure (tmps.getD t undef)
 |.cell a t=>do loadVar t (<- asAddr (tmps.getD a undef))
theorem RV.rd(h:Fr n l a):∀{r:ResultVar}{v:Value},RV P l w r v->(Stp.rd a.tmps r).run P w=.ok v w
 |.tmp t,v,G=>by simp[Stp.rd,h.has _ _ G]
 |.cell p ty,v,⟨W,H,J⟩=>by simp[Stp.rd,h.has _ _ H,asAddr,J]
theorem qq(fn:Func) (tmps:Array Value):results fn tmps=(do let G <- fn.results.mapM (Stp.rd tmps);pure (if h:G.size=1 then G[0]else .tuple G)):=by
 unfold results
 congr 1
theorem EA{r1 r2:ResultVar}{W X:Value}(h:Fr n l a) (Y:fn.results=#[r1,r2]) (G:RV P l w r1 W) (H:RV P l w r2 X) (hR:R (.tuple #[W,X]) w) (J:n.ds=[]:=by rfl):Out P fn R a w:=by
 refine⟨h.defers.trans J,_,?_,hR⟩
 rw[qq,Y]
 simp[G.rd h,H.rd h]
theorem DL{r1 r2 r3:ResultVar}{X Y v3:Value}(h:Fr n l a) (hr:fn.results=#[r1,r2,r3]) (G:RV P l w r1 X) (H:RV P l w r2 Y) (J:RV P l w r3 v3) (hR:R (.tuple #[X,Y,v3]) w) (W:n.ds=[]:=by rfl):Out P fn R a w:=by
 refine⟨h.defers.trans W,_,?_,hR⟩
 rw[qq,hr]
 simp[G.rd h,H.rd h,J.rd h]
end
end Go.Stp
end
section
namespace Go.Stp
open Go.RowKit
theorem sH{w:World}{base G:Nat}{e:TypeId}{size:Nat}{v:Value}{n:Nat}{xs:List Value}(h:w.ownsRow base e size v n xs) (W:G<=base):w.ownsRow G e size v n xs:=by
 obtain⟨X,H⟩:=h
 refine⟨X,?_⟩
 rcases H with H|⟨g,cap,J,Y,a2,a3⟩
 ·exact .inl H
 ·exact .inr ⟨g,cap,J,Y,Nat.le_trans W a2,a3⟩
theorem Hp.Bn{w0:Bs}{w w':World}{hl:List Own}(H:Hp w0 hl w) (h:Ext w w'){e:TypeId}{sz n:Nat}{v:Value}{xs:List Value}(G:w'.ownsRow w.heap.size e sz v n xs):Hp w0 (hl++[.row e sz v n xs]) w':=by
 exact H.push h (.row e sz v n xs) (sH G (Nat.zero_le _)) (λb J=>(World.ownsRow.lt G b J).1)
theorem Hp.zT{w0:Bs}{w:World}{hl:List Own}(H:Hp w0 hl w) (e:TypeId) (sz:Nat):Hp w0 (hl++[.row e sz (.slice none 0 0) 0 []]) w:=
 H.Bn (Ext.refl w) (World.ownsRow_nil w _ e sz)
theorem Hp.cT{w0:Bs}{w:World}{hl:List Own}(H:Hp w0 hl w) (n:Nat){hl':List Own}(h:hl.take n=hl'):Hp w0 hl' w:=by
 subst h
 have G:∀(i:Nat) (o:Own),(hl.take n)[i]?=some o->hl[i]?=some o:=by
  intro i o e
  rw[List.getElem?_take]at e
  split at e
  ·exact e
  ·cases e
 exact⟨H.below,λi o e=>H.own i o (G i o e),λi o e=>H.lo i o (G i o e),λi j o o' J W=>H.apart i j o o' (G i o J) (G j o' W)⟩
theorem getD_some{α:Type}(l:List α) (n:Nat) (d:α) (h:n<l.length):l[n]?=some (l.getD n d):=by
 rw[List.getElem?_eq_getElem h]
 simp[List.getD,List.getElem?_eq_getElem h]
theorem jP{α:Type}(enc:α->List Value) (sz:Nat) (G:∀a,(enc a).length=sz):∀(data:List α) (p j:Nat) (d:α),data[p]?=some d->j<sz->(data.flatMap enc)[p*sz+j]?=(enc d)[j]?
 |[],p,j,d,h,_=>by simp at h
 |a::r,0,j,d,h,H=>by
  simp only[List.getElem?_cons_zero,Option.some.injEq]at h
  subst h
  simp only[List.flatMap_cons,Nat.zero_mul,Nat.zero_add]
  rw[List.getElem?_append_left (by rw[G];exact H)]
 |a::r,p+1,j,d,h,H=>by
  simp only[List.getElem?_cons_succ]at h
  simp only[List.flatMap_cons]
  rw[List.getElem?_append_right (by rw[G,Nat.add_mul];omega)]
  rw[<-jP enc sz G r p j d h H]
  congr 1
  rw[G,Nat.add_mul]
  omega
theorem fe{α:Type}(enc:α->List Value) (sz:Nat) (G:∀a,(enc a).length=sz) (data:List α):(data.flatMap enc).length=data.length*sz:=by
 induction data with
 |nil=>simp
 |cons a r H=>simp[List.flatMap_cons,G,H,Nat.add_mul];omega
def Reads{α:Type}(w:World) (v:Value) (sz:Nat) (enc:α->List Value) (data:List α):Prop:=
 (v=.slice none 0 0/\data=[])\/∃(g o cap:Nat) (cs:List Value) (e:TypeId) (fz:Nat × Nat),v=.slice (some ⟨g,o,none⟩) data.length cap/\w.heap[g]?=some (.cells cs.toArray e fz)/\∀j u,(data.flatMap enc)[j]?=some u->cs[o+j]?=some u
theorem Reads.Cr{α:Type}{w:World}{B:Nat}{e:TypeId}{sz n:Nat}{v:Value}{enc:α->List Value}{data:List α}(h:w.ownsRow B e sz v n (data.flatMap enc)) (W:n=data.length):Reads w v sz enc data:=by
 subst W
 rcases h.2 with⟨H,X⟩|⟨g,cap,J,H,_,hg,_,_,_,Y⟩
 ·exact .inl ⟨H,List.eq_nil_of_length_eq_zero X⟩
 · refine .inr ⟨g,0,cap,J.toList,e,(0,0),H,by simpa using hg,λj u G=>?_⟩
   rw[<-Y,List.getElem?_take]at G
   rw[Nat.zero_add]
   split at G
   ·exact G
   ·cases G
theorem Reads.C'{α:Type}{w w':World}{v:Value}{sz:Nat}{enc:α->List Value}{data:List α}(h:Reads w v sz enc data) (hs:∀b,v.ownBlock=some b->w'.heap[b]?=w.heap[b]?):Reads w' v sz enc data:=by
 rcases h with h|⟨g,o,cap,cs,e,fz,G,H,J⟩
 ·exact .inl h
 ·exact .inr ⟨g,o,cap,cs,e,fz,G,by rw[hs g (by rw[G];rfl)];exact H,J⟩
section
variable {P:Program}{ops:Array Oper}{Q:Exit->Act->World->Prop}{rest:List Oper}{n:Nm}{dn:Nat}{l:List (Nat × Value)}{a:Act}{w:World}{w0:Bs}{hl:List Own}
 {d:Option Nat}{x y c u v:Operand}{t t' ty:TypeId}{pos:String}{af:Array Edge}{g:Option (Nat × Bool)}{V V':Value}{cs:List Value}{e:TypeId}{b off:Nat}{fz:Nat × Nat}{k:IntKind}{p:Int}
theorem Reads.len{α:Type}{enc:α->List Value}{sz:Nat}{data:List α}(h:Reads w V sz enc data):∃H cap,V=.slice H data.length cap:=by
 rcases h with⟨G,hd⟩|⟨g,o,cap,cs,e,fz,G,_⟩
 · subst hd
   exact⟨none,0,G⟩
 ·exact⟨_,cap,G⟩
theorem CY{G:Option Addr}{m cap:Nat}(H:P.underlying t=some (.slice e)) (J:ev l x=some (.slice G m cap)):cH P l w ⟨d,.call { callee:=.builtin .len,args:=#[x],argTypes:=#[t] },ty,pos,af,g⟩ (.int .i64 m):=λn a h=>by
 have W:execOp a.eval ⟨d,.call { callee:=.builtin .len,args:=#[x],argTypes:=#[t] },ty,pos,af,g⟩=Builtin.len_ #[t] ty (#[x].map a.eval) >>= λv=>pure (.value v):=rfl
 rw[W]
 simp[h.ev J,Builtin.len_,run_underlying H,goInt]
theorem bY{α:Type}{enc:α->List Value}{sz:Nat}{data:List α}(G:P.underlying t=some (.slice e)) (H:ev l x=some V) (J:Reads w V sz enc data) :
 cH P l w ⟨d,.call { callee:=.builtin .len,args:=#[x],argTypes:=#[t] },ty,pos,af,g⟩ (.int .i64 data.length):=by
 obtain⟨W,cap,rfl⟩:=J.len
 exact CY G H
def At{α:Type}(w:World) (V:Value) (enc:α->List Value) (G:α) (j:Nat):Prop:=
 ∃(g o:Nat) (cs:List Value) (e:TypeId) (fz:Nat × Nat),V=.pointer (some ⟨g,o,none⟩)/\w.heap[g]?=some (.cells cs.toArray e fz)/\∀i u,(enc G)[j+i]?=some u->cs[o+i]?=some u
theorem bB{α:Type}{enc:α->List Value}{sz:Nat}{data:List α}(h:Fr n l a) (ht:P.underlying t=some (.slice e)) (hs:∀w,(sizeOf e).run P w=.ok sz w) (hx:ev l x=some V) (hy:ev l y=some (.int k p))
 (hr:Reads w V sz enc data) (G:∀a,(enc a).length=sz) (W:α) (hp:0<=p) (H:data[p.toNat]?=some W) (hd:Nat.blt dn n.n=true)
 (kk:∀J V',At w V' enc W 0->Fr n ((dn,V')::l) J->wpList P ops Q rest J w) :
 wpList P ops Q (⟨some dn,.indexAddr t x y,ty,pos,af,none⟩::rest) a w:=by
 have X:p.toNat<data.length:=(List.getElem?_eq_some_iff.1 H).1
 rcases hr with⟨hv,Y⟩|⟨g,o,cap,cs,e',fz,hv,hg,hc⟩
 ·subst Y;simp at X
 subst hv
 refine st1 h O O hd (V:=.pointer (some ⟨g,o+p.toNat*sz,none⟩)) (λn a h=>?_) (λJ h'=>kk J _ ⟨g,_,cs,e',fz,O,hg,λi u hu=>?_⟩ h')
 · have e1:execOp a.eval ⟨some dn,.indexAddr t x y,ty,pos,af,none⟩=Instr.indexAt t (a.eval x) (a.eval y) >>= λv=>pure (.value v):=rfl
   rw[e1,h.ev hx,h.ev hy]
   have h2:p<(data.length:Int):=by omega
   simp[Instr.indexAt,asIntOf,run_underlying ht,hp,h2,hs,Addr.add_lit]
 · rw[Nat.zero_add]at hu
   rw[Nat.add_assoc]
   refine hc _ u ?_
   have hi:i<sz:=by
    have:=(List.getElem?_eq_some_iff.1 hu).1
    rwa[G]at this
   rw[jP enc sz G data p.toNat i W H hi]
   exact hu
theorem At.ext{α:Type}{w w':World}{enc:α->List Value}{G:α}{j:Nat}(h:At w V enc G j) (X:Ext w w'):At w' V enc G j:=by
 obtain⟨g,o,cs,e,fz,H,J,W⟩:=h
 exact⟨g,o,cs,e,fz,H,X.block J,W⟩
theorem kK{α:Type}{enc:α->List Value}{J:α}{j:Nat}{W:Array Field}{f:Field}{i X Y:Nat}(h:Fr n l a) (hx:ev l x=some V) (hA:At w V enc J j) (G:P.underlying t=some (.struct W)) (hf:W.toList[i]?=some f)
 (hs:∀w,(sizeOf f.type).run P w=.ok X w) (hk:Nat.ble 1 X=true) (hj:j+f.offset=Y) (hd:Nat.blt dn n.n=true)
 (kk:∀H V',At w V' enc J Y->Fr n ((dn,V')::l) H->wpList P ops Q rest H w) :
 wpList P ops Q (⟨some dn,.fieldAddr t x i,ty,pos,af,none⟩::rest) a w:=by
 obtain⟨g,o,cs,e',fz,rfl,h2,h3⟩:=hA
 exact st1 h O O hd (ab hx G hf hs hk O) (λH h'=>kk H _ ⟨g,_,cs,e',fz,O,h2,λm u G=>by
  rw[Nat.add_assoc]
  refine h3 _ u ?_
  rw[<-hj]at G
  rw[<-G]
  congr 1
  omega⟩ h')
theorem al{α:Type}{enc:α->List Value}{G:α}{j:Nat}(H:ev l x=some V') (J:At w V' enc G j) (W:∀w,(isAgg t).run P w=.ok false w) (hc:(enc G)[j]?=some V):cH P l w ⟨d,.load t x,ty,pos,af,g⟩ V:=by
 obtain⟨g,o,cs,Y,fz,rfl,X,h3⟩:=J
 exact aE H W X (by simpa using h3 0 V (by simpa using hc))
theorem ay{α:Type}{enc:α->List Value}{J:α}{j H:Nat}(G:List Value) (hx:ev l x=some V') (hA:At w V' enc J j) (ha:∀w,(isAgg t).run P w=.ok true w) (hs:∀w,(sizeOf t).run P w=.ok H w)
 (hv:((enc J).drop j).take H=G) (hk:G.length=H):cH P l w ⟨d,.load t x,ty,pos,af,g⟩ (.agg G.toArray):=by
 obtain⟨g,o,cs,e',fz,rfl,h2,h3⟩:=hA
 refine dL G hx ha hs h2 ?_ hk
 apply List.ext_getElem?
 intro i
 by_cases hi:i<H
 · have W:i<G.length:=by omega
   obtain⟨u,X⟩:∃u,G[i]?=some u:=⟨_,List.getElem?_eq_getElem W⟩
   have h6:(enc J)[j+i]?=some u:=by
    have Y:=X
    rw[<-hv,List.getElem?_take,if_pos hi,List.getElem?_drop]at Y
    exact Y
   rw[List.getElem?_take,if_pos hi,List.getElem?_drop,h3 i _ h6,X]
 ·rw[List.getElem?_take,if_neg hi,List.getElem?_eq_none (by omega)]
end
end Go.Stp
end
section
namespace Go.Stp
open Go.RowKit
section
variable {P:Program}{ops:Array Oper}{Q:Exit->Act->World->Prop}{C:World->Prop}{F:Act->Prop}{rest:List Oper}{o:Oper}{n:Nm}{d dn:Nat}{l:List (Nat × Value)}{a:Act}{w w1:World}{w0:Bs}{hl:List Own}{V:Value}
theorem BQ(h:Fr n l a) (hd:o.dst=some d) (G:Nat.blt d n.n=true) (J:Region.wanted o (yielded ops a.tmps)=true) (W:∀w,C w->o.quietAt P a C w V)
 (k:∀H,Fr n ((d,V)::l) H->wpQuiet P ops C F rest H):wpQuiet P ops C F (o::rest) a:=by
 refine wpQuiet_step λK X=>?_
 rw[if_pos J]
 refine⟨V,W,X _ ?_⟩
 rw[hd]
 exact k _ (h.put G V)
theorem bE(G:o.guard=none):Region.wanted o (yielded ops a.tmps)=true:=by simp[Region.wanted,G]
theorem cH.quietAt(G:cH P l w o V) (h:Fr n l a):o.quietAt P a C w V:=by
 unfold Oper.quietAt
 rw[G n a h]
 exact⟨O,O⟩
theorem q1(h:Fr n l a) (J:o.guard=none) (hd:o.dst=some d) (G:Nat.blt d n.n=true) (W:∀w,C w->cH P l w o V)
 (k:∀H,Fr n ((d,V)::l) H->wpQuiet P ops C F rest H):wpQuiet P ops C F (o::rest) a:=
 BQ h hd G (bE J) (λw X=>(W w X).quietAt h) k
def D3(P:Program) (l:List (Nat × Value)) (w1 w:World) (o:Oper) (V:Value):Prop:=∀n a,Fr n l a->o.quietAt P a (Ext w1) w V
theorem q2(h:Fr n l a) (J:o.guard=none) (hd:o.dst=some d) (G:Nat.blt d n.n=true) (W:∀w,Ext w1 w->D3 P l w1 w o V)
 (k:∀H,Fr n ((d,V)::l) H->wpQuiet P ops (Ext w1) F rest H):wpQuiet P ops (Ext w1) F (o::rest) a:=
 BQ h hd G (bE J) (λw X=>W w X n a h) k
variable {x y:Operand}{t ty:TypeId}{pos:String}{af:Array Edge}{gd:Option (Nat × Bool)}{e:TypeId}{k:IntKind}{p:Int}{α:Type}{enc:α->List Value}{sz:Nat}{data:List α}
theorem rY(c:Bool) (ht:P.underlying t=some (.slice e)) (hs:∀w,(sizeOf e).run P w=.ok sz w) (hx:c=true->ev l x=some V) (hy:c=true->ev l y=some (.int k p))
 (hr:Reads w V sz enc data) (H:∀a,(enc a).length=sz) (W:α) (hp:c=true->0<=p) (J:c=true->data[p.toNat]?=some W) :
 ∃V',(c=true->∀w',cH P l w' ⟨some dn,.indexAddr t x y,ty,pos,af,gd⟩ V')/\(c=true->At w V' enc W 0):=by
 rcases hr with⟨hv,X⟩|⟨g,o,cap,cs,e',fz,hv,hg,hc⟩
 ·refine⟨undef,λG=>?_,λG=>?_⟩<;>· have:=J G;rw[X]at this;simp at this
 · subst hv
   refine⟨.pointer (some ⟨g,o+p.toNat*sz,none⟩),λG w' n a h=>?_,λG=>⟨g,_,cs,e',fz,O,hg,λi u Y=>?_⟩⟩
   · have a1:p.toNat<data.length:=(List.getElem?_eq_some_iff.1 (J G)).1
     have e1:execOp a.eval ⟨some dn,.indexAddr t x y,ty,pos,af,gd⟩=Instr.indexAt t (a.eval x) (a.eval y) >>= λv=>pure (.value v):=rfl
     rw[e1,h.ev (hx G),h.ev (hy G)]
     have hp:=hp G
     have h2:p<(data.length:Int):=by omega
     simp[Instr.indexAt,asIntOf,run_underlying ht,hp,h2,hs,Addr.add_lit]
   · rw[Nat.zero_add]at Y
     rw[Nat.add_assoc]
     refine hc _ u ?_
     have hi:i<sz:=by
      have:=(List.getElem?_eq_some_iff.1 Y).1
      rwa[H]at this
     rw[jP enc sz H data p.toNat i W (J G) hi]
     exact Y
theorem rF{H:α}{j:Nat}{J:Array Field}{f:Field}{i W X:Nat}(c:Bool) (Y:c=true->ev l x=some V) (hA:c=true->At w V enc H j) (G:P.underlying t=some (.struct J)) (hf:J.toList[i]?=some f)
 (hs:∀w,(sizeOf f.type).run P w=.ok W w) (hk:Nat.ble 1 W=true) (hj:j+f.offset=X) :
 ∃V',(c=true->∀w',cH P l w' ⟨some dn,.fieldAddr t x i,ty,pos,af,gd⟩ V')/\(c=true->At w V' enc H X):=by
 cases c with
 |false=>exact⟨undef,(λh=>by simp at h),(λh=>by simp at h)⟩
 |true=>
  obtain⟨g,o,cs,e',fz,rfl,h2,h3⟩:=hA rfl
  refine⟨.pointer (some ⟨g,o+f.offset,none⟩),λ_ w'=>ab (Y O) G hf hs hk O,λ_=>⟨g,_,cs,e',fz,O,h2,λm u G=>?_⟩⟩
  rw[Nat.add_assoc]
  refine h3 _ u ?_
  rw[<-hj]at G
  rw[<-G]
  congr 1
  omega
theorem fv{j g:Nat}{b c:Bool}(h:Fr n l a) (Y:(ops[j]?).bind (·.dst)=some g) (J:ln l g b c) (ht:P.underlying t=some (.slice e)) (hs:∀w,(sizeOf e).run P w=.ok sz w) (hx:c=true->ev l x=some V) (hy:c=true->ev l y=some (.int k p))
 (hr:Reads w V sz enc data) (G:∀a,(enc a).length=sz) (W:α) (hp:c=true->0<=p) (X:c=true->data[p.toNat]?=some W) (hd:Nat.blt dn n.n=true)
 (kk:∀H V',(c=true->At w V' enc W 0)->Fr n ((dn,gw c V')::l) H->wpList P ops Q rest H w) :
 wpList P ops Q (⟨some dn,.indexAddr t x y,ty,pos,af,some (j,b)⟩::rest) a w:=by
 obtain⟨V',h1,h2⟩:=rY (P:=P) (l:=l) (dn:=dn) (ty:=ty) (pos:=pos) (af:=af) (gd:=some (j,b)) c ht hs hx hy hr G W hp X
 exact ai h O Y J O hd (λhc=>h1 hc w) (λH h'=>kk H V' h2 h')
theorem gj{j g:Nat}{b c:Bool}{W:α}{X:Nat}{Y:Array Field}{f:Field}{i kz j':Nat}(h:Fr n l a) (hj:(ops[j]?).bind (·.dst)=some g) (H:ln l g b c) (hx:c=true->ev l x=some V) (hA:c=true->At w V enc W X) (hu:P.underlying t=some (.struct Y)) (hf:Y.toList[i]?=some f)
 (hs:∀w,(sizeOf f.type).run P w=.ok kz w) (hk:Nat.ble 1 kz=true) (J:X+f.offset=j') (hd:Nat.blt dn n.n=true)
 (kk:∀G V',(c=true->At w V' enc W j')->Fr n ((dn,gw c V')::l) G->wpList P ops Q rest G w) :
 wpList P ops Q (⟨some dn,.fieldAddr t x i,ty,pos,af,some (j,b)⟩::rest) a w:=by
 obtain⟨V',h1,h2⟩:=rF (P:=P) (l:=l) (dn:=dn) (ty:=ty) (pos:=pos) (af:=af) (gd:=some (j,b)) c hx hA hu hf hs hk J
 exact ai h O hj H O hd (λhc=>h1 hc w) (λG h'=>kk G V' h2 h')
end
end Go.Stp
end
section
namespace Go.Stp
open Go.RowKit
section
variable {P:Program}{ops:Array Oper}{w1:World}{π:Nat->Nat}{zo:Nat->Option Obj}
def nu(P:Program) (o:Oper) (a:Act) (w:World) (v:Value):Prop:=match(execOp a.eval o).run P w with
 |.ok (.value u) w'=>w'=w/\u=v
 |.ok .skip w'=>w'=w/\v=undef
 |.ok (.enter f args) w'=>w'=w/\P.inits.idxOf? f=none/\Calls P f args w (bj λu G=>u=v/\Ext w G)
 |_=>False
theorem nu.wp{o:Oper}{a:Act}{w:World}{v:Value}{K:Act->World->Prop}{Q:Exit->Act->World->Prop}(h:nu P o a w v) (G:∀w',Ext w w'->K (a.put o.dst v) w'):o.wp P a w K Q:=by
 unfold nu at h
 unfold Oper.wp
 generalize (execOp a.eval o).run P w=r at h⊢
 cases r with
 |halt x w'=>exact h.elim
 |ok J w'=>
  cases J with
  |value u=>
   obtain⟨rfl,rfl⟩:=h
   exact G _ (Ext.refl _)
  |skip=>
   obtain⟨rfl,rfl⟩:=h
   exact G _ (Ext.refl _)
  |enter f args=>
   obtain⟨rfl,_,W⟩:=h
   refine W.mono λe X H=>?_
   cases e with
   |returned u=>obtain⟨rfl,Y⟩:=H;exact G _ Y
   |panicked _=>exact H.elim
   |outgrown=>exact H.elim
  |_=>exact h.elim
def YA(P:Program) (ops:Array Oper) (w1:World) (π:Nat->Nat) (zo:Nat->Option Obj) (i:Nat) (o:Oper) (v:Value) (a:Act):Prop:=
 (Region.wanted o (yielded ops a.tmps)=false/\zo i=none/\v=undef)\/
 (Region.wanted o (yielded ops a.tmps)=true/\zo i=none/\∀w,Ext w1 w->nu P o a w v)\/
 (Region.wanted o (yielded ops a.tmps)=true/\∃e z,o.op=.alloc e/\(∀w,(zeroValue e).run P w=.ok z w)/\zo i=some (aB z.cells.toList e)/\v=.pointer (some ⟨π i,0,none⟩))
theorem YA.put{i:Nat}{o:Oper}{v u:Value}{a:Act}{d:Option Tmp}(hs:∀cs b,o.op≠.select cs b) (h:∀e,d=some e->e ∉ o.looksAt ops) :
 YA P ops w1 π zo i o v (a.put d u)<->YA P ops w1 π zo i o v a:=by
 unfold YA nu
 rw[wanted_put o a d u h,execOp_put o hs a d u h]
def Da(P:Program) (ops:Array Oper) (w1:World) (π:Nat->Nat) (zo:Nat->Option Obj) (F:Act->Prop):Nat->List Oper->Act->Prop
 |_,[],a=>F a
 |k,o::rest,a=>∃v,YA P ops w1 π zo k o v a/\Da P ops w1 π zo F (k+1) rest (a.put o.dst v)
end
end Go.Stp
namespace Go.Stp
open Go.RowKit
section
variable {P:Program}{ops:Array Oper}{Q:Exit->Act->World->Prop}{w1:World}{π:Nat->Nat}{zo:Nat->Option Obj}{ki:Nat}{F:Act->Prop}{rest:List Oper}{o:Oper}{n:Nm}{d dn:Nat}{l:List (Nat × Value)}{a:Act}{w:World}{w0:Bs}{hl:List Own}{V:Value}
theorem BN(h:Fr n l a) (hz:zo ki=none) (hd:o.dst=some d) (G:Nat.blt d n.n=true) (J:Region.wanted o (yielded ops a.tmps)=true) (W:∀w,Ext w1 w->nu P o a w V)
 (k:∀H,Fr n ((d,V)::l) H->Da P ops w1 π zo F (ki+1) rest H):Da P ops w1 π zo F ki (o::rest) a:=
 ⟨V,.inr (.inl ⟨J,hz,W⟩),by rw[hd];exact k _ (h.put G V)⟩
theorem cH.gives(G:cH P l w o V) (h:Fr n l a):nu P o a w V:=by
 unfold nu
 rw[G n a h]
 exact⟨O,O⟩
theorem t1(h:Fr n l a) (hz:zo ki=none) (J:o.guard=none) (hd:o.dst=some d) (G:Nat.blt d n.n=true) (W:∀w,Ext w1 w->cH P l w o V)
 (k:∀H,Fr n ((d,V)::l) H->Da P ops w1 π zo F (ki+1) rest H):Da P ops w1 π zo F ki (o::rest) a:=
 BN h hz hd G (bE J) (λw X=>(W w X).gives h) k
def Dr(P:Program) (l:List (Nat × Value)) (w:World) (o:Oper) (V:Value):Prop:=∀n a,Fr n l a->nu P o a w V
theorem t2(h:Fr n l a) (hz:zo ki=none) (J:o.guard=none) (hd:o.dst=some d) (G:Nat.blt d n.n=true) (W:∀w,Ext w1 w->Dr P l w o V)
 (k:∀H,Fr n ((d,V)::l) H->Da P ops w1 π zo F (ki+1) rest H):Da P ops w1 π zo F ki (o::rest) a:=
 BN h hz hd G (bE J) (λw X=>W w X n a h) k
variable {x y:Operand}{t ty:TypeId}{pos:String}{af:Array Edge}{gd:Option (Nat × Bool)}{e:TypeId}{k:IntKind}{p:Int}{α:Type}{enc:α->List Value}{sz:Nat}{data:List α}
end
theorem Own.D1{w0:Bs}{w:World}{hl:List Own}(H:Hp w0 hl w):∀x∈hl,∀b,x.at=some b->b<w.heap.size:=λx G b J=>by
 obtain⟨i,hi⟩:=List.getElem?_of_mem G
 exact Own.jv (H.own i x hi) b J
theorem Hp.add{w0:Bs}{w:World}{hl:List Own}(H:Hp w0 hl w) (o:Own) (ho:o.holds w) (J:∀b,o.at=some b->w0.heap.size<=b\/b∈w0.L) (Y:∀x∈hl,∀b,x.at=some b->o.at≠some b):Hp w0 (hl++[o]) w:=by
 have G:∀(i:Nat) (x:Own),(hl++[o])[i]?=some x->(hl[i]?=some x/\i<hl.length)\/(i=hl.length/\x=o):=by
  intro i x e
  rw[List.getElem?_append]at e
  split at e
  ·exact .inl ⟨e,by assumption⟩
  · rename_i a1
    have:i-hl.length=0:=by
     have:=(List.getElem?_eq_some_iff.1 e).1
     simp at this
     omega
    rw[this]at e
    simp at e
    exact .inr ⟨by omega,e.symm⟩
 refine⟨H.below,λi x e=>?_,λi x e=>?_,λi j x y hx hy W b X=>?_⟩
 · rcases G i x e with⟨e,_⟩|⟨_,rfl⟩
   ·exact H.own i x e
   ·exact ho
 · rcases G i x e with⟨e,_⟩|⟨_,rfl⟩
   ·exact H.lo i x e
   ·exact J
 · rcases G i x hx with⟨ex,_⟩|⟨ei,rfl⟩<;>rcases G j y hy with⟨ey,_⟩|⟨ej,rfl⟩
   ·exact H.apart i j x y ex ey W b X
   ·exact Y x (List.mem_of_getElem? ex) b X
   · intro e
     exact Y y (List.mem_of_getElem? ey) b e X
   ·omega
section
variable {P:Program}{Q:Exit->Act->World->Prop}{a:Act}{w:World}{w0:Bs}{hl:List Own}
end
end Go.Stp
end
section
namespace Go.Stp
open Go.RowKit
section
variable {P:Program}{ops:Array Oper}{Q:Exit->Act->World->Prop}{rest:List Oper}{n:Nm}{dn:Nat}{l:List (Nat × Value)}{a:Act}{w:World}{w0:Bs}{hl:List Own}
 {d:Option Nat}{x y:Operand}{t t' ty:TypeId}{pos:String}{af:Array Edge}{g:Option (Nat × Bool)}{V V':Value}{cs:List Value}{e:TypeId}{b off:Nat}{fz:Nat × Nat}{k k':IntKind}{p q:Int}
theorem AZ{xs G:Array Value}{B:Bool}(H:ev l x=some (.agg xs)) (hy:ev l y=some (.agg G)) (J:P.eqGuardType P.depth t=false) (W:∀w,(Op.equalIn 10000 t (.agg xs) (.agg G)).run P w=.ok B w) :
 cH P l w ⟨d,.binOp .eql t x y t',ty,pos,af,g⟩ (.bool B):=λn a h=>by
 rw[dx,h.ev H,h.ev hy]
 simp only[Sem.run_bind,run_eqGuard_agg w _ _ _ _ _ _ J,Result.andThen_ok,run_eql_struct,W,Sem.run_pure]
theorem lV{xs G:Array Value}{B:Bool}(H:ev l x=some (.agg xs)) (hy:ev l y=some (.agg G)) (J:P.eqGuardType P.depth t=false) (W:∀w,(Op.equalIn 10000 t (.agg xs) (.agg G)).run P w=.ok B w) :
 cH P l w ⟨d,.binOp .neq t x y t',ty,pos,af,g⟩ (.bool (!B)):=λn a h=>by
 rw[dx,h.ev H,h.ev hy]
 simp only[Sem.run_bind,run_eqGuard_agg w _ _ _ _ _ _ J,Result.andThen_ok,run_neq_struct,W,Sem.run_pure]
theorem C5(G:ev l x=some (.int k p)) (hy:ev l y=some (.int k q)):cH P l w ⟨d,.binOp .and t x y t',ty,pos,af,g⟩ (.int k (bits .and k p q)):=λn a h=>by
 rw[dx,h.ev G,h.ev hy]
 have H:eqGuard .and t x y (.int k p) (.int k q)=pure ():=rfl
 rw[H]
 simp[Go.binOp_and,intBits_and]
theorem nW{f f':Nat->Option (Nat × Nat)}(G:∀i p,f i=some p->f' i=some p):∀(H:List (Nat × Value)) (cs out:Array Value),Instr.fill f cs H=some out->Instr.fill f' cs H=some out
 |[],cs,out,h=>h
 |(i,v)::r,cs,out,h=>by
  simp only[Instr.fill]at h⊢
  cases hi:f i with
  |none=>rw[hi]at h;cases h
  |some p=>
   rw[hi]at h
   rw[G i p hi]
   obtain⟨o,s⟩:=p
   simp only at h⊢
   split at h
   ·cases h
   · rename_i J
     rw[if_neg J]
     exact nW G r _ _ h
theorem cR.Fe{len sz:Nat}{z:Value}{pl:List (Nat × Nat)}{G:List Value}(W:P.underlying t=some (.array len e)) (hs:∀w,(sizeOf e).run P w=.ok sz w) (hz:∀w,(zeroValue t).run P w=.ok z w) (H:z.cells.toList=G)
 (hp:∀i p,pl.toArray[i]?=some p->p=(i*sz,sz)):cR P t pl G:=by
 intro w parts cells h
 have J:z.cells=G.toArray:=by rw[<-H]
 have X:=nW (f':=λi=>some (i*sz,sz)) (λi p hi=>by rw[hp i p hi]) _ _ _ h
 simp only[Instr.build,Sem.run_bind,hz,Result.andThen_ok,run_underlying W,hs,J]
 rw[X]
 simp
theorem zq{len:Nat}{xs:List Value}(G:P.underlying t=some (.array len e)) (hs:∀w,(sizeOf e).run P w=.ok 1 w) (H:∀w,(isAgg e).run P w=.ok false w) (J:ev l x=some (.agg xs.toArray)) (hy:ev l y=some (.int k p))
 (hp:0<=p/\p<len) (W:xs[p.toNat]?=some V):cH P l w ⟨d,.index t x y,ty,pos,af,g⟩ V:=λn a h=>by
 rw[uF,h.ev J,h.ev hy]
 simp[Instr.index,asIntOf,run_underlying G,hp,part,H,hs,W]
def Er(len sz:Nat):List (Nat × Nat):=(List.range len).map λi=>(i*sz,sz)
theorem cb(len sz:Nat):∀i p,(Er len sz).toArray[i]?=some p->p=(i*sz,sz):=by
 intro i p h
 simp only[Er,List.getElem?_toArray,List.getElem?_map,Option.map_eq_some_iff]at h
 obtain⟨j,G,rfl⟩:=h
 obtain⟨H,rfl⟩:=List.getElem?_eq_some_iff.1 G
 simp
end
end Go.Stp
end
section
namespace Go.Stp
open Go.RowKit
inductive RL where
 |eq (V:Value)
 |rel (R:World->Value->Prop)
 |ivl (R:Nat->Nat->World->Value->Prop)
def RL.holds(r:RL) (w:World) (v:Value):Prop:=match r with
 |.eq V=>v=V
 |.rel R=>R w v
 |.ivl R=>∃lo hi,R lo hi w v
def RL.at(r:RL) (lo hi:Nat) (w:World) (v:Value):Prop:=match r with
 |.eq V=>v=V
 |.rel R=>R w v
 |.ivl R=>R lo hi w v
theorem RL.at.holds{r:RL}{lo hi:Nat}{w:World}{v:Value}(h:r.at lo hi w v):r.holds w v:=by
 cases r with
 |eq V=>exact h
 |rel R=>exact h
 |ivl R=>exact⟨lo,hi,h⟩
def zB(R:World->Value->Prop):Prop:=∀w w' v,Ext w w'->R w v->R w' v
def RL.mW(r:RL):Prop:=match r with
 |.eq _=>True
 |.rel R=>zB R
 |.ivl R=>∀lo hi,zB (R lo hi)
theorem RL.mW.on{r:RL}(h:r.mW){w w':World}{v:Value}(X:Ext w w') (G:r.holds w v):r.holds w' v:=by
 cases r with
 |eq V=>exact G
 |rel R=>exact h w w' v X G
 |ivl R=>
  obtain⟨lo,hi,G⟩:=G
  exact⟨lo,hi,h lo hi w w' v X G⟩
def lookL:List (Nat × RL)->Nat->Option RL
 |[],_=>none
 |(k,v)::l,i=>bif Nat.beq k i then some v else lookL l i
def eqs:List (Nat × Value)->List (Nat × RL)
 |[]=>[]
 |(k,v)::l=>(k,.eq v)::eqs l
theorem fG:∀(l:List (Nat × Value)) (i:Nat) (r:RL),lookL (eqs l) i=some r->∃v,r=.eq v/\look l i=some v
 |[],i,r,h=>by cases h
 |(k,v)::l,i,r,h=>by
  simp only[eqs,lookL]at h
  cases G:Nat.beq k i with
  |true=>
   rw[G]at h
   simp only[cond_true,Option.some.injEq]at h
   exact⟨v,h.symm,by simp[look,G]⟩
  |false=>
   rw[G]at h
   simp only[cond_false]at h
   obtain⟨u,H,J⟩:=fG l i r h
   exact⟨u,H,by simp[look,G,J]⟩
def ownB:Value->Option Nat
 |.pointer (some a)=>some a.block
 |.slice (some a) _ _=>some a.block
 |_=>none
structure sK (n:Nm) (L:List (Nat × RL)) (a:Act) (w:World):Prop where
 size:a.tmps.size=n.n
 defers:a.defers=n.ds
 has:∀s r,lookL L s=some r->r.holds w (a.tmps.getD s undef)
def FrOn(S:List Nat) (L:List (Nat × RL)) (a:Act) (w:World):Prop:=∀s∈S,∀r,lookL L s=some r->r.holds w (a.tmps.getD s undef)
structure io (w1:World) (L:List (Nat × RL)) (A:List Nat) (a:Act) (w:World):Prop where
 iv:∀s R,lookL L s=some (.ivl R)->∃lo hi,w1.heap.size<=lo/\R lo hi w (a.tmps.getD s undef)/\∀t∈A,t≠s->∀b,ownB (a.tmps.getD t undef)=some b->b<lo\/hi<=b
 lo:∀s∈A,∀b,ownB (a.tmps.getD s undef)=some b->w1.heap.size<=b/\b<w.heap.size
 ne:∀s∈A,∀t∈A,s≠t->∀b,ownB (a.tmps.getD s undef)=some b->ownB (a.tmps.getD t undef)≠some b
def StepF(P:Program) (ops:Array Oper) (o:Oper) (fr:Bool) (r:RL) (a:Act) (w:World):Prop:=
 (Region.wanted o (yielded ops a.tmps)=false/\r.at w.heap.size w.heap.size w undef)\/
 (Region.wanted o (yielded ops a.tmps)=true/\∀(K:Act->World->Prop) (Q:Exit->Act->World->Prop),(∀v w',Ext w w'->r.at w.heap.size w'.heap.size w' v->(fr=true->∀b,ownB v=some b->w.heap.size<=b/\b<w'.heap.size)->K (a.put o.dst v) w')->o.wp P a w K Q)
def bm(P:Program) (ops:Array Oper) (w1:World) (n:Nm) (F:List (Nat × RL)->List Nat->Prop):List (Nat × RL)->List Nat->List Oper->Prop
 |L,A,[]=>F L A
 |L,A,o::rest=>∃d r fr,o.dst=some d/\d<n.n/\r.mW/\(∀a w,Ext w1 w->a.tmps.size=n.n->a.defers=n.ds->FrOn (o.looksAt ops) L a w->StepF P ops o fr r a w)/\
  bm P ops w1 n F ((d,r)::L) (if fr=true then d::A else A) rest
def dstOf(ops:Array Oper) (j:Nat):Option Nat:=(ops[j]?).bind (·.dst)
def oz(ops:Array Oper) (m:Nat):Bool:=
 (List.range m).all λk=>match ops[k]? with
  |none=>false
  |some o=>(o.after.all λe=>!Region.binds .any e||Nat.blt e.on k) &&
   match o.dst with
   |none=>false
   |some d=>(List.range m).all λj=>Nat.beq j k||match dstOf ops j with
    |none=>false
    |some G=>!Nat.beq G d&&(!(o.looksAt ops).contains G||(bif Nat.blt j k then Region.waitsFor .any ops k j else Region.waitsFor .any ops j k))
section
variable {P:Program}{ops:Array Oper}{w1:World}{n:Nm}{m:Nat}
structure FlowOk (ops:Array Oper) (m:Nat):Prop where
 op:∀k,k<m->∃o d,ops[k]?=some o/\o.dst=some d/\(∀e∈o.after,Region.binds .any e=true->e.on<k)
 one:∀j k,j<m->k<m->j≠k->∀d,dstOf ops j=some d->dstOf ops k≠some d
 dep:∀j k o d,j<k->k<m->ops[k]?=some o->dstOf ops j=some d->d∈o.looksAt ops->Region.waitsFor .any ops k j=true
 anti:∀j k o d,k<j->j<m->ops[k]?=some o->dstOf ops j=some d->d∈o.looksAt ops->Region.waitsFor .any ops j k=true
theorem tP(h:oz ops m=true):FlowOk ops m:=by
 have X:∀k,k<m->∃o d,ops[k]?=some o/\o.dst=some d/\(∀e∈o.after,Region.binds .any e=true->e.on<k)/\
  ∀j,j<m->j≠k->∃J,dstOf ops j=some J/\J≠d/\(J∈o.looksAt ops->(j<k->Region.waitsFor .any ops k j=true)/\(¬j<k->Region.waitsFor .any ops j k=true)):=by
  intro k hk
  have G:=List.all_eq_true.1 h k (List.mem_range.2 hk)
  cases ho:ops[k]? with
  |none=>rw[ho]at G;simp at G
  |some o=>
   rw[ho]at G
   simp only[Bool.and_eq_true]at G
   obtain⟨G,W⟩:=G
   cases hd:o.dst with
   |none=>rw[hd]at W;simp at W
   |some d=>
    rw[hd]at W
    refine⟨o,d,O,hd,λe he hb=>?_,λj hj a1=>?_⟩
    · have:=Array.all_eq_true_iff_forall_mem.1 G e he
      simpa[hb,Nat.blt_eq]using this
    · have Y:=List.all_eq_true.1 W j (List.mem_range.2 hj)
      have a7:Nat.beq j k=false:=by
       cases hb:Nat.beq j k with
       |false=>rfl
       |true=>exact absurd (Nat.eq_of_beq_eq_true hb) a1
      rw[a7]at Y
      cases H:dstOf ops j with
      |none=>rw[H]at Y;simp at Y
      |some J=>
       rw[H]at Y
       simp only[Bool.false_or,Bool.and_eq_true,Bool.not_eq_true',Bool.or_eq_true]at Y
       obtain⟨h4,h5⟩:=Y
       refine⟨J,O,λe=>?_,λhm=>?_⟩
       · subst e
         rw[Nat.beq_refl]at h4
         cases h4
       · rcases h5 with h5|h5
         · rw[<-Bool.not_eq_true,List.contains_iff_mem]at h5
           exact absurd hm h5
         · refine⟨λhjk=>?_,λhjk=>?_⟩
           · rw[show Nat.blt j k=true by simpa[Nat.blt_eq]using hjk]at h5
             exact h5
           · rw[show Nat.blt j k=false by
              cases hb:Nat.blt j k with
              |false=>rfl
              |true=>exact absurd (by simpa[Nat.blt_eq]using hb) hjk]at h5
             exact h5
 refine⟨λk hk=>?_,λj k hj hk a1 d H a6=>?_,λj k o d hjk hk ho hd hm=>?_,λj k o d a8 hj ho hd hm=>?_⟩
 · obtain⟨o,d,G,W,Y,_⟩:=X k hk
   exact⟨o,d,G,W,Y⟩
 · obtain⟨o,d',G,W,_,h4⟩:=X k hk
   obtain⟨J,h5,h6,_⟩:=h4 j hj a1
   have:dstOf ops k=some d':=by simp[dstOf,G,W]
   rw[this]at a6
   rw[h5]at H
   simp only[Option.some.injEq]at a6 H
   exact h6 (H.trans a6.symm)
 · obtain⟨o',d',G,W,_,h4⟩:=X k hk
   obtain rfl:o'=o:=Option.some.inj (G.symm.trans ho)
   obtain⟨J,h5,_,h7⟩:=h4 j (by omega) (by omega)
   obtain rfl:J=d:=Option.some.inj (h5.symm.trans hd)
   exact(h7 hm).1 hjk
 · obtain⟨o',d',G,W,_,h4⟩:=X k (by omega)
   obtain rfl:o'=o:=Option.some.inj (G.symm.trans ho)
   obtain⟨J,h5,_,h7⟩:=h4 j hj (by omega)
   obtain rfl:J=d:=Option.some.inj (h5.symm.trans hd)
   exact(h7 hm).2 (by omega)
def ctx(L:List (Nat × RL)):List (Nat × RL × Bool)->List (Nat × RL)
 |[]=>L
 |(d,r,_)::T=>ctx ((d,r)::L) T
def CV(A:List Nat):List (Nat × RL × Bool)->List Nat
 |[]=>A
 |(d,_,fr)::T=>CV (if fr=true then d::A else A) T
theorem sP{F:List (Nat × RL)->List Nat->Prop}:∀(l:List Oper) (L:List (Nat × RL)) (A:List Nat),bm P ops w1 n F L A l->
 ∃T:List (Nat × RL × Bool),T.length=l.length/\(∀k o,l[k]?=some o->∃d r fr,T[k]?=some (d,r,fr)/\o.dst=some d/\d<n.n/\r.mW/\
  ∀a w,Ext w1 w->a.tmps.size=n.n->a.defers=n.ds->FrOn (o.looksAt ops) (ctx L (T.take k)) a w->StepF P ops o fr r a w)/\F (ctx L T) (CV A T)
 |[],L,A,h=>⟨[],rfl,λk o h=>by simp at h,h⟩
 |o::l,L,A,⟨d,r,fr,J,W,X,Y,h5⟩=>by
  obtain⟨T,t1,t2,t3⟩:=sP l _ _ h5
  refine⟨(d,r,fr)::T,by simp[t1],λk o' G=>?_,t3⟩
  cases k with
  |zero=>
   simp only[List.getElem?_cons_zero,Option.some.injEq]at G
   subst G
   exact⟨d,r,fr,by simp,J,W,X,Y⟩
  |succ k=>
   simp only[List.getElem?_cons_succ]at G
   obtain⟨d',r',H,e1,e2,e3,e4,e5⟩:=t2 k o' G
   exact⟨d',r',H,by simpa using e1,e2,e3,e4,by simpa[ctx]using e5⟩
theorem gN:∀(T:List (Nat × RL × Bool)) (L:List (Nat × RL)) (s:Nat) (r:RL),lookL (ctx L T) s=some r->
 (∃(j:Nat) (fr:Bool),T[j]?=some (s,r,fr))\/((∀(j:Nat) d r' fr,T[j]?=some (d,r',fr)->d≠s)/\lookL L s=some r)
 |[],L,s,r,h=>.inr ⟨λj d r' fr e=>by simp at e,h⟩
 |(d,r0,f0)::T,L,s,r,h=>by
  rcases gN T ((d,r0)::L) s r h with⟨j,fr,hj⟩|⟨J,G⟩
  ·exact .inl ⟨j+1,fr,by simpa using hj⟩
  · simp only[lookL]at G
    cases H:Nat.beq d s with
    |true=>
     rw[H]at G
     simp only[cond_true,Option.some.injEq]at G
     have:=Nat.eq_of_beq_eq_true H
     subst this
     subst G
     exact .inl ⟨0,f0,by simp⟩
    |false=>
     rw[H]at G
     refine .inr ⟨λj d' r' fr e=>?_,G⟩
     cases j with
     |zero=>
      simp only[List.getElem?_cons_zero,Option.some.injEq,Prod.mk.injEq]at e
      obtain⟨rfl,_⟩:=e
      intro e2
      subst e2
      rw[Nat.beq_refl]at H
      cases H
     |succ j=>exact J j d' r' fr (by simpa using e)
theorem gt:∀(T:List (Nat × RL × Bool)) (A:List Nat) (s:Nat),s∈CV A T->s∈A\/∃(j:Nat) (r:RL),T[j]?=some (s,r,true)
 |[],A,s,h=>.inl h
 |(d,r,fr)::T,A,s,h=>by
  rcases gt T _ s h with h1|⟨j,r',hj⟩
  · cases fr with
    |false=>exact .inl (by simpa using h1)
    |true=>
     simp only[if_true,List.mem_cons]at h1
     rcases h1 with rfl|h1
     ·exact .inr ⟨0,r,by simp⟩
     ·exact .inl h1
  ·exact .inr ⟨j+1,r',by simpa using hj⟩
def m3(listed:Array Bool):Nat->Nat
 |0=>0
 |k+1=>m3 listed k+(if listed.getD k false=true then 0 else 1)
theorem wC{listed:Array Bool}{i:Nat}:∀k,k<=i->m3 (listed.setIfInBounds i true) k=m3 listed k
 |0,_=>rfl
 |k+1,h=>by
  simp only[m3]
  rw[wC k (by omega),getD_set_ne false (by omega)]
theorem nD{listed:Array Bool}{i:Nat}(hi:i<listed.size) (hl:listed.getD i false=false):∀k,i<k->m3 (listed.setIfInBounds i true) k+1=m3 listed k
 |0,h=>by omega
 |k+1,h=>by
  simp only[m3]
  by_cases G:i=k
  · subst G
    rw[wC i (Nat.le_refl _),hl]
    have:(listed.setIfInBounds i true).getD i false=true:=by simp[hi]
    rw[this]
    simp
  · rw[getD_set_ne false G]
    have:=nD hi hl k (by omega)
    omega
theorem kr{listed:Array Bool}:∀k,m3 listed k=0->∀i,i<k->listed.getD i false=true
 |0,_,i,h=>by omega
 |k+1,h,i,hi=>by
  simp only[m3]at h
  by_cases H:i=k
  · subst H
    by_cases G:listed.getD i false=true
    ·exact G
    ·rw[if_neg G]at h;omega
  ·exact kr k (by omega) i (by omega)
theorem lL{listed:Array Bool}:∀k,0<m3 listed k->∃i,i<k/\listed.getD i false=false/\∀j,j<i->listed.getD j false=true
 |0,h=>by simp[m3]at h
 |k+1,h=>by
  by_cases G:0<m3 listed k
  · obtain⟨i,X,H,J⟩:=lL k G
    exact⟨i,by omega,H,J⟩
  · refine⟨k,by omega,?_,kr k (by omega)⟩
    simp only[m3]at h
    cases W:listed.getD k false with
    |false=>rfl
    |true=>rw[if_pos W]at h;omega
theorem fW{a:Act}{d:Nat}{v:Value}(h:d<a.tmps.size):(a.put (some d) v).tmps.getD d undef=v:=by
 simp[Act.put,Array.getD_eq_getD_getElem?,h]
theorem jK{a:Act}{d s:Nat}{v:Value}(h:d≠s):(a.put (some d) v).tmps.getD s undef=a.tmps.getD s undef:=by
 simp[Act.put,Array.getD_eq_getD_getElem?,h]
structure Way (ops:Array Oper) (m:Nat) (n:Nm) (w1:World) (T:List (Nat × RL × Bool)) (a0:Act) (listed:Array Bool) (a:Act) (w:World):Prop where
 inv:HeadInv .any ops m listed
 ext:Ext w1 w
 size:a.tmps.size=n.n
 defers:a.defers=n.ds
 old:∀s,(∀j,j<m->listed.getD j false=true->dstOf ops j≠some s)->a.tmps.getD s undef=a0.tmps.getD s undef
 new:∀(j d:Nat) (r:RL) (fr:Bool),T[j]?=some (d,r,fr)->listed.getD j false=true->r.holds w (a.tmps.getD d undef)
 lo:∀(j d:Nat) (r:RL),T[j]?=some (d,r,true)->listed.getD j false=true->∀b,ownB (a.tmps.getD d undef)=some b->w1.heap.size<=b/\b<w.heap.size
 ne:∀(j d:Nat) (r:RL) (i d':Nat) (r':RL),T[j]?=some (d,r,true)->T[i]?=some (d',r',true)->j≠i->listed.getD j false=true->listed.getD i false=true->
  ∀b,ownB (a.tmps.getD d undef)=some b->ownB (a.tmps.getD d' undef)≠some b
 iv:∀(j d:Nat) (R:Nat->Nat->World->Value->Prop) (fr:Bool),T[j]?=some (d,.ivl R,fr)->listed.getD j false=true->∃lo hi,w1.heap.size<=lo/\hi<=w.heap.size/\R lo hi w (a.tmps.getD d undef)/\
  ∀(i d':Nat) (r':RL),T[i]?=some (d',r',true)->listed.getD i false=true->j≠i->∀b,ownB (a.tmps.getD d' undef)=some b->b<lo\/hi<=b
theorem Way.next{T:List (Nat × RL × Bool)}{a0:Act}(ok:FlowOk ops m) (c8:m<=ops.size) (dT:∀(j d:Nat) (r:RL) (fr:Bool),T[j]?=some (d,r,fr)->j<m/\dstOf ops j=some d)
 (sT:∀(j d:Nat) (r:RL) (fr:Bool),T[j]?=some (d,r,fr)->r.mW)
 {listed:Array Bool}{a:Act}{w:World}(Wy:Way ops m n w1 T a0 listed a w){i:Nat}{oi:Oper}{d:Nat}{r:RL}{fr:Bool}(hi:i∈Region.ready .any ops listed) (b3:i<m) (bb:ops[i]?=some oi) (hd:oi.dst=some d) (bk:d<n.n) (bq:T[i]?=some (d,r,fr)) :
 ∀v w',Ext w w'->r.at w.heap.size w'.heap.size w' v->(fr=true->∀b,ownB v=some b->w.heap.size<=b/\b<w'.heap.size)->Way ops m n w1 T a0 (listed.setIfInBounds i true) (a.put oi.dst v) w':=by
 have b6:dstOf ops i=some d:=by simp[dstOf,bb,hd]
 have bs:i<listed.size:=by rw[Wy.inv.size];omega
 have b4:(listed.setIfInBounds i true).getD i false=true:=by simp[bs]
 intro v w' X hv b1
 rw[hd]
 have ao:∀(j d':Nat) (r':RL) (H:Bool),T[j]?=some (d',r',H)->j≠i->(a.put (some d) v).tmps.getD d' undef=a.tmps.getD d' undef:=by
  intro j d' r' H hj G
  obtain⟨c6,c7⟩:=dT j d' r' H hj
  exact jK λe=>by
   subst e
   exact ok.one j i c6 b3 G _ c7 b6
 have ad:∀j,(listed.setIfInBounds i true).getD j false=true->j≠i->listed.getD j false=true:=λj hj G=>by
  rwa[getD_set_ne false (Ne.symm G)]at hj
 have J:(a.put (some d) v).tmps.getD d undef=v:=fW (by rw[Wy.size];exact bk)
 have W:∀(d':Nat) (r':RL) (H:Bool),T[i]?=some (d',r',H)->d'=d/\r'=r/\H=fr:=λd' r' H h=>by
  rw[bq]at h
  simp only[Option.some.injEq,Prod.mk.injEq]at h
  exact⟨h.1.symm,h.2.1.symm,h.2.2.symm⟩
 refine⟨Wy.inv.set hi b3,Wy.ext.trans X,by simp[Act.put,Wy.size],by simp[Act.put,Wy.defers],λs hs=>?_,λj d' r' H hj a1=>?_,λj d' r' hj a1 b hb=>?_,λj d' r' i' a6 a7 hj Y a8 a1 b2 b hb=>?_,λj d' R H hj a1=>?_⟩
 · have a8:d≠s:=λe=>by
    subst e
    exact hs i b3 b4 b6
   rw[jK a8]
   exact Wy.old s λj hj a1=>hs j hj (getD_set_true a1)
 · by_cases G:j=i
   · subst G
     obtain⟨rfl,rfl,rfl⟩:=W _ _ _ hj
     rw[J]
     exact hv.holds
   · rw[ao j d' r' H hj G]
     have hs:r'.mW:=sT j d' r' H hj
     exact hs.on X (Wy.new j d' r' H hj (ad j a1 G))
 · by_cases G:j=i
   · subst G
     obtain⟨rfl,rfl,e⟩:=W _ _ _ hj
     rw[J]at hb
     have:=b1 e.symm b hb
     have:=Wy.ext.size
     omega
   · rw[ao j d' r' true hj G]at hb
     have h1:=Wy.lo j d' r' hj (ad j a1 G) b hb
     have:=X.size
     omega
 · by_cases G:j=i
   · subst G
     obtain⟨rfl,rfl,e⟩:=W _ _ _ hj
     rw[J]at hb
     have h1:=b1 e.symm b hb
     rw[ao i' a6 a7 true Y (Ne.symm a8)]
     intro b5
     have:=Wy.lo i' a6 a7 Y (ad i' b2 (Ne.symm a8)) b b5
     omega
   · rw[ao j d' r' true hj G]at hb
     by_cases b0:i'=i
     · subst b0
       obtain⟨rfl,rfl,e⟩:=W _ _ _ Y
       rw[J]
       intro b5
       have h1:=b1 e.symm b b5
       have:=Wy.lo j d' r' hj (ad j a1 G) b hb
       omega
     · rw[ao i' a6 a7 true Y b0]
       exact Wy.ne j d' r' i' a6 a7 hj Y a8 (ad j a1 G) (ad i' b2 b0) b hb
 · by_cases G:j=i
   · subst G
     obtain⟨rfl,rfl,rfl⟩:=W _ _ _ hj
     refine⟨w.heap.size,w'.heap.size,Wy.ext.size,Nat.le_refl _,by rw[J];exact hv,λi' a6 a7 Y b2 a8 b hb=>?_⟩
     rw[ao i' a6 a7 true Y (Ne.symm a8)]at hb
     exact .inl (Wy.lo i' a6 a7 Y (ad i' b2 (Ne.symm a8)) b hb).2
   · obtain⟨lo,b7,h1,h2,h3,h4⟩:=Wy.iv j d' R H hj (ad j a1 G)
     have hs:=sT j d' _ H hj
     refine⟨lo,b7,h1,Nat.le_trans h2 X.size,by rw[ao j d' _ H hj G];exact hs lo b7 _ _ _ X h3,λi' a6 a7 Y b2 a8 b hb=>?_⟩
     by_cases b0:i'=i
     · subst b0
       obtain⟨rfl,rfl,e⟩:=W _ _ _ Y
       rw[J]at hb
       have:=(b1 e.symm b hb).1
       exact .inr (by omega)
     · rw[ao i' a6 a7 true Y b0]at hb
       exact h4 i' a6 a7 Y (ad i' b2 b0) a8 b hb
theorem xF{g:Nat}{Q:Exit->Act->World->Prop}{T:List (Nat × RL × Bool)}{L0:List (Nat × RL)}{a0:Act}(ok:FlowOk ops m) (hT:T.length=m) (c7:m<=ops.size)
 (hw:∀listed,HeadInv .any ops m listed->∀i,i<m->listed.getD i true=false->∀t,m<=t->t ∉ Region.ready .any ops listed)
 (c8:∀s r,lookL L0 s=some r->r.mW/\r.holds w1 (a0.tmps.getD s undef))
 (G:∀k o,k<m->ops[k]?=some o->∃d r fr,T[k]?=some (d,r,fr)/\o.dst=some d/\d<n.n/\r.mW/\
  ∀a w,Ext w1 w->a.tmps.size=n.n->a.defers=n.ds->FrOn (o.looksAt ops) (ctx L0 (T.take k)) a w->StepF P ops o fr r a w)
 (b4:∀listed a w,HeadInv .any ops m listed->(∀i,i<m->listed.getD i false=true)->Way ops m n w1 T a0 listed a w->wpAny P .any ops Q g listed a w) :
 ∀(f:Nat) (listed:Array Bool) (a:Act) (w:World),m3 listed m=f->Way ops m n w1 T a0 listed a w->wpAny P .any ops Q (f+g) listed a w:=by
 have dT:∀(j d:Nat) (r:RL) (fr:Bool),T[j]?=some (d,r,fr)->j<m/\dstOf ops j=some d:=by
  intro j d r fr h
  have Y:j<m:=by rw[<-hT];exact(List.getElem?_eq_some_iff.1 h).1
  obtain⟨o,d',h1,h2,_⟩:=ok.op j Y
  obtain⟨cc,ch,b5,h3,h4,_⟩:=G j o Y h1
  rw[h3]at h
  simp only[Option.some.injEq,Prod.mk.injEq]at h
  obtain⟨rfl,_⟩:=h
  exact⟨Y,by simp[dstOf,h1,h4]⟩
 have sT:∀(j d:Nat) (r:RL) (fr:Bool),T[j]?=some (d,r,fr)->r.mW:=by
  intro j d r fr h
  obtain⟨Y,_⟩:=dT j d r fr h
  obtain⟨o,d',h1,h2,_⟩:=ok.op j Y
  obtain⟨cc,ch,b5,h3,h4,_,h5,_⟩:=G j o Y h1
  rw[h3]at h
  simp only[Option.some.injEq,Prod.mk.injEq]at h
  rw[<-h.2.1]
  exact h5
 intro f
 induction f with
 |zero=>
  intro listed a w hc Wy
  rw[Nat.zero_add]
  exact b4 listed a w Wy.inv (kr m hc) Wy
 |succ f ih=>
  intro listed a w hc Wy
  rw[show f+1+g=(f+g)+1 by omega]
  obtain⟨i0,b6,ct,a1⟩:=lL m (show 0<m3 listed m by omega)
  have ao:listed.getD i0 true=false:=getD_in (by rw[Wy.inv.size];omega) ct
  have b7:i0∈Region.ready .any ops listed:=by
   obtain⟨o,d,h1,h2,h3⟩:=ok.op i0 b6
   exact mem_ready.2 ⟨ao,o,h1,λe he hb=>a1 _ (h3 e he hb)⟩
  refine⟨λh=>(by rw[h]at b7;cases b7),λi hi=>?_⟩
  have a8:i<m:=by
   rcases Nat.lt_or_ge i m with h|h
   ·exact h
   ·exact absurd hi (hw listed Wy.inv i0 b6 ao i h)
  obtain⟨bb,oi,H,bk⟩:=mem_ready.1 hi
  have b0:listed.getD i false=false:=getD_both bb
  obtain⟨d,r,fr,cx,hd,cy,e3,da⟩:=G i oi a8 H
  have e4:dstOf ops i=some d:=by simp[dstOf,H,hd]
  have dv:FrOn (oi.looksAt ops) (ctx L0 (T.take i)) a w:=by
   intro s hs r' dz
   rcases gN _ _ _ _ dz with⟨j,b1,Y⟩|⟨h1,h2⟩
   · have bq:j<i:=by
      have:=(List.getElem?_eq_some_iff.1 Y).1
      simp only[List.length_take]at this
      omega
     have bs:T[j]?=some (s,r',b1):=by rw[List.getElem?_take,if_pos bq]at Y;exact Y
     obtain⟨e5,a6⟩:=dT j s r' b1 bs
     have J:=ok.dep j i oi s bq a8 H a6 hs
     obtain⟨o',b2,e,he,hb,b3⟩:=Region.waitsFor_spec J
     obtain rfl:o'=oi:=Option.some.inj (b2.symm.trans H)
     have a7:listed.getD j false=true:=by rw[<-b3];exact bk e he hb
     exact Wy.new j s r' b1 bs a7
   · obtain⟨st,ho⟩:=c8 s r' h2
     have:a.tmps.getD s undef=a0.tmps.getD s undef:=by
      refine Wy.old s λj Y a7 a6=>?_
      rcases Nat.lt_trichotomy j i with ad|heq|hgt
      · obtain⟨oj,dj,h3,h4,_⟩:=ok.op j Y
        obtain⟨d3,r3,e0,h5,h6,_⟩:=G j oj Y h3
        have:d3=s:=by
         have:dstOf ops j=some d3:=by simp[dstOf,h3,h6]
         rw[this]at a6
         exact Option.some.inj a6
        subst this
        exact h1 j d3 r3 e0 (by rw[List.getElem?_take,if_pos ad];exact h5) rfl
      · subst heq
        rw[b0]at a7
        cases a7
      · have J:=ok.anti j i oi s hgt Y H a6 hs
        obtain⟨o',b2,e,he,hb,b3⟩:=Region.waitsFor_spec J
        have:=Wy.inv.closed j o' b2 a7 e he hb
        rw[b3,b0]at this
        cases this
     rw[this]
     exact st.on Wy.ext ho
  have ad:i<listed.size:=by rw[Wy.inv.size];omega
  have e1:(listed.setIfInBounds i true).getD i false=true:=by simp[ad]
  have next:=Way.next ok c7 dT sT Wy hi a8 H hd cy cx
  have c6:m3 (listed.setIfInBounds i true) m=f:=by
   have:=nD ad b0 m a8
   omega
  unfold wpOp
  simp only[H]
  rcases da a w Wy.ext Wy.size Wy.defers dv with⟨W,hv⟩|⟨W,hK⟩
  · rw[if_neg (by rw[W];exact Bool.false_ne_true)]
    exact ih _ _ _ c6 (next undef w (Ext.refl _) hv (λ_ b hb=>by simp[ownB,undef]at hb))
  · rw[if_pos W]
    left
    exact hK _ _ λv w' X hv hf=>ih _ _ _ c6 (next v w' X hv hf)
theorem ow{Q:Exit->Act->World->Prop}{a:Act}{w:World}{l:List (Nat × Value)}{ol:List Oper}(W g:Nat) (hg:ol.length<=W+g) (hmm:W<=ol.length) (h:Fr n l a)
 (hB:oz ol.toArray W=true)
 (hw:∀listed,HeadInv .any ol.toArray W listed->∀i,i<W->listed.getD i true=false->∀t,W<=t->t ∉ Region.ready .any ol.toArray listed)
 (G:Act->World->Prop) (ad:∀listed a w,HeadInv .any ol.toArray W listed->(∀i,i<W->listed.getD i false=true)->G a w->wpAny P .any ol.toArray Q g listed a w)
 (H:bm P ol.toArray w n (λL A=>∀a' w',Ext w w'->sK n L a' w'->io w L A a' w'->G a' w') (eqs l) [] (ol.take W)) :
 wpAny P .any ol.toArray Q (W+g) (Array.replicate ol.toArray.size false) a { w with drawn:=w.drawn+1 }:=by
 have ok:=tP hB
 obtain⟨T,t1,t2,t3⟩:=sP _ _ _ H
 have Y:(ol.take W).length=W:=by simp;omega
 have ao:HeadInv .any ol.toArray W (Array.replicate ol.toArray.size false):=
  ⟨by simp,λj oj _ hl=>(by rw[getD_replicate_false]at hl;cases hl),λt _ ht=>getD_in (by simpa using ht) (getD_replicate_false _ _)⟩
 have a6:∀k o,k<W->ol.toArray[k]?=some o->∃d r fr,T[k]?=some (d,r,fr)/\o.dst=some d/\d<n.n/\r.mW/\
  ∀a w',Ext w w'->a.tmps.size=n.n->a.defers=n.ds->FrOn (o.looksAt ol.toArray) (ctx (eqs l) (T.take k)) a w'->StepF P ol.toArray o fr r a w':=λk o hk ho=>
  t2 k o (by rw[List.getElem?_take,if_pos hk];simpa using ho)
 have a7:∀k,(Array.replicate ol.toArray.size false).getD k false=true->False:=λk hk=>by rw[getD_replicate_false]at hk;cases hk
 have b2:∀k,m3 (Array.replicate ol.toArray.size false) k=k:=by
  intro k
  induction k with
  |zero=>rfl
  |succ k ih=>simp only[m3,ih,getD_replicate_false];simp
 refine xF (T:=T) (L0:=eqs l) (a0:=a) (w1:=w) ok (by rw[t1,Y]) (by simpa using hmm) hw (λs r hr=>?_) a6 (λlisted a' w' hi hl Wy=>?_) W _ a _ (b2 W) ?_
 · obtain⟨v,rfl,hv⟩:=fG l s r hr
   exact⟨trivial,h.has _ _ hv⟩
 · refine ad listed a' w' hi hl (t3 a' w' Wy.ext ⟨Wy.size,Wy.defers,λs r hr=>?_⟩ ⟨λs R hr=>?_,λs hs b hb=>?_,λs hs t ht b3 b hb=>?_⟩)
   · rcases gN _ _ _ _ hr with⟨j,fr,X⟩|⟨h1,h2⟩
     · have a1:j<W:=by rw[<-Y,<- t1];exact(List.getElem?_eq_some_iff.1 X).1
       exact Wy.new j s r fr X (hl j a1)
     · obtain⟨v,rfl,hv⟩:=fG l s r h2
       show a'.tmps.getD s undef=v
       rw[Wy.old s λj X b7 b0=>?_]
       ·exact h.has _ _ hv
       · obtain⟨oj,dj,h3,h4,_⟩:=ok.op j X
         obtain⟨d3,r3,b4,h5,h6,_⟩:=a6 j oj X h3
         have:dstOf ol.toArray j=some d3:=by simp only[dstOf,h3,Option.bind_some,h6]
         rw[this]at b0
         exact h1 j d3 r3 b4 h5 (Option.some.inj b0)
   · rcases gN _ _ _ _ hr with⟨j,fr,X⟩|⟨h1,h2⟩
     · have a1:j<W:=by rw[<-Y,<- t1];exact(List.getElem?_eq_some_iff.1 X).1
       obtain⟨lo,b5,k1,k2,k3,k4⟩:=Wy.iv j s R fr X (hl j a1)
       refine⟨lo,b5,k1,k3,λt ht b6 b hb=>?_⟩
       rcases gt _ _ _ ht with ht|⟨i,r',J⟩
       ·cases ht
       · have a8:i<W:=by rw[<-Y,<- t1];exact(List.getElem?_eq_some_iff.1 J).1
         by_cases b1:j=i
         · subst b1
           rw[X]at J
           simp only[Option.some.injEq,Prod.mk.injEq]at J
           exact absurd J.1.symm b6
         ·exact k4 i t r' J (hl i a8) b1 b hb
     · obtain⟨v,hv,_⟩:=fG l s _ h2
       cases hv
   · rcases gt _ _ _ hs with hs|⟨j,r,X⟩
     ·cases hs
     · have a1:j<W:=by rw[<-Y,<- t1];exact(List.getElem?_eq_some_iff.1 X).1
       exact Wy.lo j s r X (hl j a1) b hb
   · rcases gt _ _ _ hs with hs|⟨j,r,X⟩
     ·cases hs
     · rcases gt _ _ _ ht with ht|⟨i,r',J⟩
       ·cases ht
       · have a1:j<W:=by rw[<-Y,<- t1];exact(List.getElem?_eq_some_iff.1 X).1
         have a8:i<W:=by rw[<-Y,<- t1];exact(List.getElem?_eq_some_iff.1 J).1
         refine Wy.ne j s r i t r' X J (λe=>?_) (hl j a1) (hl i a8) b hb
         subst e
         rw[X]at J
         simp only[Option.some.injEq,Prod.mk.injEq]at J
         exact b3 J.1
 ·exact⟨ao,Ext.drew w,h.size,h.defers,λ_ _=>rfl,λj d r fr _ hl=>(a7 j hl).elim,λj d r _ hl=>(a7 j hl).elim,λj d r i d' r' _ _ _ hl=>(a7 j hl).elim,λj d R fr _ hl=>(a7 j hl).elim⟩
theorem vY{Q:Exit->Act->World->Prop}{a:Act}{w:World}{l:List (Nat × Value)}{id:Nat}{ol:List Oper}(h:Fr n l a) (Y:P.follows .mixedOrders=true) (hB:oz ol.toArray ol.length=true)
 (H:bm P ol.toArray w n (λL A=>∀G w',Ext w w'->sK n L G w'->io w L A G w'->Q .normal G w') (eqs l) [] ol):(Code.region id ol.toArray true).wp P Q a w:=by
 refine wp_region_any Y ?_
 have:=ow (P:=P) (Q:=Q) (g:=0) ol.length (by omega) (Nat.le_refl _) h hB (λlisted _ i _ _ t X J=>by
  obtain⟨_,o,W,_⟩:=mem_ready.1 J
  have:=(Array.getElem?_eq_some_iff.1 W).1
  simp at this
  omega) (λG w'=>Q .normal G w') (λlisted G w' hi hl hq=>⟨?_,hq⟩) (by rw[List.take_length];exact H)
 ·simpa using this
 · cases J:Region.ready .any ol.toArray listed with
   |nil=>rfl
   |cons t ts=>
    exfalso
    have X:t∈Region.ready .any ol.toArray listed:=by rw[J];simp
    obtain⟨h1,o,W,_⟩:=mem_ready.1 X
    have hlt:=(Array.getElem?_eq_some_iff.1 W).1
    have h2:=hl t (by simpa using hlt)
    have:=getD_both h1
    rw[h2]at this
    cases this
def ou(ops:Array Oper) (m:Nat):Bool:=oz ops m&&decide (m<ops.size)&&Region.sinkB .any ops m&&Region.chainB .any ops m&&(List.range ops.size).all λt=>(decide (t<m)||(match ops[t]? with|some o=>o.after.all λe=>!Region.binds .any e||Nat.blt e.on t|none=>false))
theorem pB{k:Nat}{listed:Array Bool}(hc:Region.chainB .any ops m=true) (J:∀t,m<=t->t<ops.size->∀o,ops[t]?=some o->∀e∈o.after,Region.binds .any e=true->e.on<t)
 (a1:m<=k) (Y:k<ops.size) (h1:∀i,i<k->listed.getD i false=true) (h2:∀t,k<=t->t<ops.size->listed.getD t true=false):Region.ready .any ops listed=[k]:=by
 have G:∀t,t∈Region.ready .any ops listed<->t=k:=by
  intro t
  rw[mem_ready]
  constructor
  · rintro⟨a6,o,ho,W⟩
    have X:t<ops.size:=(Array.getElem?_eq_some_iff.1 ho).1
    rcases Nat.lt_trichotomy t k with a7|heq|hgt
    · have:=h1 t a7
      have h3:=getD_both a6
      rw[this]at h3
      cases h3
    ·exact heq
    · have h3:=List.all_eq_true.1 hc t (List.mem_range.2 X)
      simp only[Bool.or_eq_true,decide_eq_true_eq]at h3
      rcases h3 with h3|h3
      ·omega
      · obtain⟨o',a8,e,he,hb,ad⟩:=Region.waitsFor_spec h3
        obtain rfl:o'=o:=Option.some.inj (a8.symm.trans ho)
        have h4:=W e he hb
        rw[ad,getD_both (h2 (t-1) (by omega) (by omega))]at h4
        cases h4
  · rintro rfl
    refine⟨h2 t (Nat.le_refl _) Y,ops[t],by simp[Y],λe he hb=>h1 _ (J t a1 Y _ (by simp[Y]) e he hb)⟩
 have H:(Region.ready .any ops listed).Nodup:=(List.nodup_range).filter _
 generalize Region.ready .any ops listed=rl at G H
 match rl,G,H with
 |[],G,_=>exact absurd ((G k).2 O) (by simp)
 |[x],G,_=>rw[(G x).1 (by simp)]
 |x::y::rs,G,H=>
  have e1:=(G x).1 (by simp)
  have e2:=(G y).1 (by simp)
  rw[e1,e2]at H
  simp at H
theorem tC(Y:Region.chainB .any ops m=true) (G:∀t,m<=t->t<ops.size->∀o,ops[t]?=some o->∀e∈o.after,Region.binds .any e=true->e.on<t) :
 ∀(g k:Nat) (listed:Array Bool),k+g=ops.size->m<=k->listed.size=ops.size->(∀i,i<k->listed.getD i false=true)->(∀t,k<=t->t<ops.size->listed.getD t true=false)->Region.seqB .any ops g k listed=true
 |0,k,listed,hg,hm,hs,H,J=>by
  simp only[Region.seqB,List.isEmpty_iff]
  cases hr:Region.ready .any ops listed with
  |nil=>rfl
  |cons t ts=>
   exfalso
   have ht:t∈Region.ready .any ops listed:=by rw[hr];simp
   obtain⟨h3,o,ho,_⟩:=mem_ready.1 ht
   have a1:=(Array.getElem?_eq_some_iff.1 ho).1
   have h4:=H t (by omega)
   have:=getD_both h3
   rw[h4]at this
   cases this
 |g+1,k,listed,hg,hm,hs,H,J=>by
  simp only[Region.seqB,Bool.and_eq_true,decide_eq_true_eq]
  refine⟨pB Y G hm (by omega) H J,tC Y G g (k+1) _ (by omega) (by omega) (by simpa using hs) (λi hi=>?_) (λt ht W=>?_)⟩
  · by_cases X:i=k
    · subst X
      have:i<listed.size:=by omega
      simp[this]
    ·exact getD_set_true (H i (by omega))
  · rw[getD_set_ne true (by omega)]
    exact J t (by omega) W
theorem xG{Q:Exit->Act->World->Prop}{a:Act}{w:World}{l:List (Nat × Value)}{ol:List Oper}(G:Nat) (h:Fr n l a) (Y:ou ol.toArray G=true)
 (H:bm P ol.toArray w n (λL A=>∀J w',Ext w w'->sK n L J w'->io w L A J w'->wpList P ol.toArray Q (ol.drop G) J w') (eqs l) [] (ol.take G)):wpAny P .any ol.toArray Q ol.toArray.size (Array.replicate ol.toArray.size false) a { w with drawn:=w.drawn+1 }:=by
 simp only[ou,Bool.and_eq_true,decide_eq_true_eq]at Y
 obtain⟨⟨⟨⟨Y,hn⟩,hs⟩,hc⟩,a1⟩:=Y
 have a8:G<ol.length:=by simpa using hn
 have W:∀t,G<=t->t<ol.toArray.size->∀o,ol.toArray[t]?=some o->∀e∈o.after,Region.binds .any e=true->e.on<t:=by
  intro t ht a6 o ho e he hb
  have h1:=List.all_eq_true.1 a1 t (List.mem_range.2 a6)
  rw[ho]at h1
  simp only[Bool.or_eq_true,decide_eq_true_eq]at h1
  rcases h1 with h1|h1
  ·omega
  · have:=Array.all_eq_true_iff_forall_mem.1 h1 e he
    simpa[hb,Nat.blt_eq]using this
 have X:(ol.drop G).length=ol.length-G:=by simp
 have:=ow (P:=P) (Q:=Q) (g:=ol.length-G) G (by omega) (by omega) h Y (λlisted inv i hi a7 t ht=>tail_waits hs hc hn inv _ i rfl hi a7 t ht)
  (λJ w'=>wpList P ol.toArray Q (ol.drop G) J w') (λlisted J w' hi hl hq=>by
   have:=wpAny_of_seq (md:=.any) (Q':=Q) (ol.drop G) G listed J w' (λj=>by simp[List.getElem?_drop]) (by
    rw[X]
    exact tC hc W _ G listed (by simp;omega) (Nat.le_refl _) hi.size hl hi.tail) hq
   rwa[X]at this) H
 have e:G+(ol.length-G)=ol.toArray.size:=by simp;omega
 rwa[e]at this
theorem uw{Q:Exit->Act->World->Prop}{a:Act}{w:World}{l:List (Nat × Value)}{id:Nat}{ol:List Oper}(G:Nat) (h:Fr n l a) (W:P.follows .mixedOrders=true) (X:ou ol.toArray G=true)
 (H:bm P ol.toArray w n (λL A=>∀J w',Ext w w'->sK n L J w'->io w L A J w'->wpList P ol.toArray Q (ol.drop G) J w') (eqs l) [] (ol.take G)):(Code.region id ol.toArray true).wp P Q a w:=wp_region_any W (xG G h X H)
end
end Go.Stp
end
section
namespace Go.Stp
open Go.RowKit
section
variable {α β σ ρ:Type}
def aa(x:α) (f:α->β):β:=f x
def aJ(p:Prop) [Decidable p] (A:Option β):Option β:=if p then A else none
def obind(x:Option α) (f:α->Option β):Option β:=match x with
 |none=>none
 |some a=>f a
def loopF(B:(σ->Option ρ)->σ->Option ρ):Nat->σ->Option ρ
 |0,_=>none
 |k+1,s=>B (loopF B k) s
theorem bv{x:α}{f:α->β}{r:β}(h:aa x f=r):∃z,z=x/\f z=r:=⟨x,rfl,h⟩
theorem ck{p:Prop} [Decidable p]{A:Option β}{r:β}(h:aJ p A=some r):p/\A=some r:=by
 unfold aJ at h
 split at h
 ·exact⟨by assumption,h⟩
 ·cases h
theorem bo{x:Option α}{f:α->Option β}{r:β}(h:obind x f=some r):∃y,x=some y/\f y=some r:=by
 cases x with
 |none=>cases h
 |some a=>exact⟨a,O,h⟩
theorem uL{b:Bool}{A B r:α}(e:b=true) (h:(if b=true then A else B)=r):A=r:=by rwa[if_pos e]at h
theorem E5{b:Bool}{A B r:α}(e:b=false) (h:(if b=true then A else B)=r):B=r:=by
 rw[if_neg (by rw[e];exact Bool.false_ne_true)]at h
 exact h
theorem Ff{B F:(σ->Option ρ)->σ->Option ρ}{s:σ}{r:ρ}{k:Nat}(e:B=F) (h:loopF B (k+1) s=some r):∃next,next=loopF B k/\F next s=some r:=⟨_,rfl,by rw[<-e];exact h⟩
theorem iJ{B F:(σ->Option ρ)->σ->Option ρ}{s:σ}{r:ρ}{k:Nat}(e:B=F) (h:loopF B k s=some r):∃k',k=k'+1/\∃next,next=loopF B k'/\F next s=some r:=by
 cases k with
 |zero=>cases h
 |succ k=>exact⟨k,O,Ff e h⟩
theorem fq{B:(σ->Option ρ)->σ->Option ρ}{next:σ->Option ρ}{s:σ}{r:ρ}{k:Nat}(e:next=loopF B k) (h:next s=some r):loopF B k s=some r:=by rw[<-e];exact h
theorem so{a b:α}(h:some a=some b):a=b:=Option.some.inj h
def KK:Nat:=2 ^ 80
def gel [Inhabited α] (l:List α) (i:Int):α:=l.getD i.toNat default
theorem ak [Inhabited α]{l:List α}{i:Int}(h:0<=i/\i<(l.length:Int)):l[i.toNat]?=some (gel l i):=getD_some l _ _ (by omega)
end
section
variable {P:Program}{l:List (Nat × Value)}{w:World}{o:Oper}
theorem vI{k:IntKind}{z Z:Int}(e:z=Z) (h:cH P l w o (.int k Z)):cH P l w o (.int k z):=by rw[e];exact h
theorem vB{z Z:Bool}(e:z=Z) (h:cH P l w o (.bool Z)):cH P l w o (.bool z):=by rw[e];exact h
end
abbrev FZ:=Nat->Option Obj
def FZ.sub(Z Z':FZ):Prop:=∀b o,Z b=some o->Z' b=some o
def FZ.subC(Z Z':FZ):Prop:=∀b cs e fz,Z b=some (.cells cs e fz)->Z' b=some (.cells cs e fz)
theorem FZ.sub.c{Z Z':FZ}(h:Z.sub Z'):Z.subC Z':=λb _ _ _ e=>h b _ e
def FZ.inn(Z:FZ) (w:World):Prop:=∀b o,Z b=some o->w.heap[b]?=some o
def hz(w:World):FZ:=λb=>w.heap[b]?
def ZB(Z:FZ) (B:Nat) (w:World):FZ:=λb=>if B<=b then w.heap[b]? else Z b
def Z0:FZ:=λ_=>none
theorem FZ.sub.refl(Z:FZ):Z.sub Z:=λ_ _ h=>h
theorem FZ.sub.trans{Z Z' G:FZ}(h:Z.sub Z') (k:Z'.sub G):Z.sub G:=λb o e=>k b o (h b o e)
theorem FZ.inn.ext{Z:FZ}{w w':World}(h:Z.inn w) (X:Ext w w'):Z.inn w':=λb o e=>X.block (h b o e)
theorem ta(w:World):(hz w).inn w:=λ_ _ h=>h
theorem FZ.inn.hz{Z:FZ}{w:World}(h:Z.inn w):Z.sub (Stp.hz w):=h
theorem ZB.inn{Z:FZ}{B:Nat}{w:World}(h:Z.inn w):(ZB Z B w).inn w:=λb o e=>by
 unfold ZB at e
 split at e
 ·exact e
 ·exact h b o e
theorem ZB.mono{Z Z':FZ}{B G:Nat}{w w':World}(H:Z.sub Z') (J:G<=B) (X:Ext w w') (hh:∀b o,G<=b->b<B->Z b=some o->w'.heap[b]?=some o):(ZB Z B w).sub (ZB Z' G w'):=λb o e=>by
 unfold ZB at e⊢
 split at e
 · rw[if_pos (by omega)]
   exact X.block e
 · split
   ·exact hh b o (by assumption) (by omega) e
   ·exact H b o e
theorem ZB.grow{Z:FZ}{B:Nat}{w w':World}(X:Ext w w'):(ZB Z B w).sub (ZB Z B w'):=ZB.mono (FZ.sub.refl Z) (Nat.le_refl _) X (λ_ _ G H=>by omega)
theorem ZB.empty{Z:FZ}{B:Nat}{w:World}:(ZB Z0 B w).sub (ZB Z B w):=λb o e=>by
 unfold ZB at e⊢
 split at e
 ·rw[if_pos (by assumption)];exact e
 ·cases e
theorem ZB.back{Z:FZ}{w1 w w':World}(X:Ext w1 w) (G:Ext w w'):(ZB Z0 w.heap.size w').sub (ZB Z w1.heap.size w'):=λb o e=>by
 unfold ZB at e⊢
 split at e
 · have:=X.size
   rw[if_pos (by omega)]
   exact e
 ·cases e
theorem ZB.Ed{Z:FZ}{w1 w w':World}(X:Ext w1 w) (Y:Ext w w'):(ZB (ZB Z w1.heap.size w) w.heap.size w').sub (ZB Z w1.heap.size w'):=λb o e=>by
 have:=X.size
 unfold ZB at e⊢
 by_cases h:w.heap.size<=b
 · rw[if_pos h]at e
   rw[if_pos (by omega)]
   exact e
 · rw[if_neg h]at e
   by_cases G:w1.heap.size<=b
   · rw[if_pos G]at e⊢
     exact Y.block e
   · rw[if_neg G]at e⊢
     exact e
theorem ZB.of{Z:FZ}{w w':World}(h:Z.inn w) (X:Ext w w'):Z.sub (ZB Z w.heap.size w'):=λb o e=>by
 unfold ZB
 split
 ·exact X.block (h b o e)
 ·exact e
def bx{α:Type}(Z:FZ) (v:Value) (sz:Nat) (enc:α->List Value) (data:List α):Prop:=
 (v=.slice none 0 0/\data=[])\/∃(g o cap:Nat) (cs:List Value) (e:TypeId) (fz:Nat × Nat),v=.slice (some ⟨g,o,none⟩) data.length cap/\data.length<=cap/\Z g=some (.cells cs.toArray e fz)/\∀j u,(data.flatMap enc)[j]?=some u->cs[o+j]?=some u
section
variable {α:Type}{Z Z':FZ}{v:Value}{sz:Nat}{enc:α->List Value}{data:List α}{w:World}
theorem bx.at(h:bx Z v sz enc data) (hz:Z.inn w):Reads w v sz enc data:=by
 rcases h with h|⟨g,o,cap,cs,e,fz,G,_,H,J⟩
 ·exact .inl h
 ·exact .inr ⟨g,o,cap,cs,e,fz,G,hz _ _ H,J⟩
theorem bx.subC(h:bx Z v sz enc data) (hz:Z.subC Z'):bx Z' v sz enc data:=by
 rcases h with h|⟨g,o,cap,cs,e,fz,G,H,J,W⟩
 ·exact .inl h
 ·exact .inr ⟨g,o,cap,cs,e,fz,G,H,hz _ _ _ _ J,W⟩
theorem bx.sub(h:bx Z v sz enc data) (hz:Z.sub Z'):bx Z' v sz enc data:=h.subC hz.c
theorem bx.hz(h:bx Z v sz enc data) (hi:Z.inn w):bx (Stp.hz w) v sz enc data:=h.sub hi.hz
theorem bx.nil:bx Z (.slice none 0 0) sz enc ([]:List α):=.inl ⟨rfl,rfl⟩
theorem bx.row{B n:Nat}{e:TypeId}(h:w.ownsRow B e sz v n (data.flatMap enc)) (X:n=data.length):bx (ZB Z0 B w) v sz enc data:=by
 subst X
 rcases h.2 with⟨H,Y⟩|⟨g,cap,J,H,hB,hg,W,_,_,ht⟩
 ·exact .inl ⟨H,List.eq_nil_of_length_eq_zero Y⟩
 · refine .inr ⟨g,0,cap,J.toList,e,(0,0),H,W,?_,λj u G=>?_⟩
   · unfold ZB
     rw[if_pos hB]
     simpa using hg
   · rw[<-ht,List.getElem?_take]at G
     rw[Nat.zero_add]
     split at G
     ·exact G
     ·cases G
end
structure HZ (w0:Bs) (Zi Z:FZ) (hl:List Own) (w:World):Prop where
 hp:Hp w0 hl w
 zin:Z.inn w
 off:∀o∈hl,∀b,o.at=some b->Z b=none
 sub:Zi.sub Z
 new:∀b o,Z b=some o->Zi b=some o\/w0.heap.size<=b\/b∈w0.L
section
variable {w0:Bs}{w w' w1:World}{Zi Z:FZ}{hl:List Own}
theorem HZ.start(w:World):HZ w (hz w) (hz w) [] w:=⟨Hp.start w,ta w,(λ_ h=>by cases h),FZ.sub.refl _,λ_ _ h=>.inl h⟩
theorem HZ.uO{w:World}(h:Z.inn w):HZ w Z Z [] w:=⟨Hp.start w,h,(λ_ h=>by cases h),FZ.sub.refl _,λ_ _ h=>.inl h⟩
theorem HZ.ext(H:HZ w0 Zi Z hl w) (X:Ext w w'):HZ w0 Zi Z hl w':=⟨H.hp.ext X,H.zin.ext X,H.off,H.sub,H.new⟩
theorem HZ.out{w0:World}(H:HZ w0 Zi Z hl w):Ext w0 w:=H.hp.out
theorem HZ.a_(H:HZ w0 Zi Z hl w):ExtB w0 w:=H.hp.a_
theorem HZ.sz(H:HZ w0 Zi Z hl w):w0.heap.size<=w.heap.size:=H.hp.a_.size
theorem HZ.lt(H:HZ w0 Zi Z hl w):∀x∈hl,∀b,x.at=some b->b<w.heap.size:=Own.D1 H.hp
theorem HZ.Cd(H:HZ w0 Zi Z hl w){b:Nat}(h:w.heap.size<=b):Z b=none:=by
 cases G:Z b with
 |none=>rfl
 |some o=>
  have:=(Array.getElem?_eq_some_iff.1 (H.zin b o G)).1
  omega
theorem HZ.push(H:HZ w0 Zi Z hl w) (X:Ext w w') (o:Own) (W:o.holds w') (G:∀b,o.at=some b->w.heap.size<=b):HZ w0 Zi Z (hl++[o]) w':=
 ⟨H.hp.push X o W G,H.zin.ext X,λx hx b J=>by
  rcases List.mem_append.1 hx with hx|hx
  ·exact H.off x hx b J
  · obtain rfl:x=o:=by simpa using hx
    exact H.Cd (G b J),H.sub,H.new⟩
theorem HZ.turn(H:HZ w0 Zi Z hl w) (i:Nat){o o':Own}(hi:hl[i]?=some o) (H':Hp w0 (hl.set i o') w') (hs:∀b,b<w.heap.size->o.at≠some b->w'.heap[b]?=w.heap[b]?)
 (J:∀b,o'.at=some b->o.at=some b\/w.heap.size<=b):HZ w0 Zi Z (hl.set i o') w':=by
 have X:o∈hl:=List.mem_of_getElem? hi
 refine⟨H',λb u G=>?_,λx W b G=>?_,H.sub,H.new⟩
 · have Y:=H.zin b u G
   rw[hs b (Array.getElem?_eq_some_iff.1 Y).1 (λe=>by have:=H.off o X b e;rw[G]at this;cases this)]
   exact Y
 · rcases List.mem_or_eq_of_mem_set W with W|rfl
   ·exact H.off x W b G
   · rcases J b G with h|h
     ·exact H.off o X b h
     ·exact H.Cd h
theorem HZ.cT(H:HZ w0 Zi Z hl w) (n:Nat){hl':List Own}(h:hl.take n=hl'):HZ w0 Zi Z hl' w:=
 ⟨H.hp.cT n h,H.zin,λo G=>H.off o (by subst h;exact List.mem_of_mem_take G),H.sub,H.new⟩
theorem HZ.BR(H:HZ w0 Zi Z hl w) (X:Ext w w'):HZ w0 Zi (ZB Z w.heap.size w') hl w':=by
 refine⟨H.hp.ext X,ZB.inn (H.zin.ext X),λo J b G=>?_,H.sub.trans (ZB.of H.zin X),λb o G=>?_⟩
 · have:=H.lt o J b G
   unfold ZB
   rw[if_neg (by omega)]
   exact H.off o J b G
 · unfold ZB at G
   split at G
   · right;left
     have:=H.sz
     omega
   ·exact H.new b o G
theorem HZ.aP(H:HZ w0 Zi Z hl w) (X:Ext w w'):∃Z',Z.sub Z'/\(ZB Z w.heap.size w').sub Z'/\HZ w0 Zi Z' hl w':=⟨_,ZB.of H.zin X,FZ.sub.refl _,H.BR X⟩
theorem HZ.o1{i:Nat}{α:Type}{enc:α->List Value}{sz:Nat}{out:List α}{sv:Value}{e:TypeId}(H:HZ w0 Zi Z hl w) (hi:hl[i]?=some (.row e sz sv out.length (out.flatMap enc))):bx (hz w) sv sz enc out:=
 (bx.row (H.hp.eT i hi) rfl).sub λb o h=>by
  unfold ZB at h
  split at h
  ·exact h
  ·cases h
theorem HZ.back{w0:World}(H:HZ w0 Zi Z hl w):Z.sub (ZB Zi w0.heap.size w):=λb o G=>by
 unfold ZB
 split
 ·exact H.zin b o G
 · rename_i J
   rcases H.new b o G with h|h|h
   ·exact h
   ·exact absurd h J
   ·cases h
def ZL(Z:FZ) (B:Bs) (w:World):FZ:=λb=>if B.heap.size<=b\/b∈B.L then w.heap[b]? else Z b
theorem HZ.DT(H:HZ w0 Zi Z hl w):Z.sub (ZL Zi w0 w):=λb o G=>by
 unfold ZL
 split
 ·exact H.zin b o G
 · rename_i J
   exact(H.new b o G).resolve_right J
theorem HZ.tG(H:HZ w0 Zi Z hl w1) (X:Ext w1 w){b:Nat}{o:Obj}(G:w.heap[b]?=some o) (J:w1.heap.size<=b):HZ w0 Zi Z (hl++[.blk b o]) w:=
 H.push X (.blk b o) G (λW h=>by simp only[Own.at,Option.some.injEq]at h;omega)
theorem HZ.rO(H:HZ w0 Zi Z hl w1) (X:Ext w1 w){b J:Nat}{o o':Obj}(hb:w.heap[b]?=some o) (Y:w1.heap.size<=b) (a1:w.heap[J]?=some o') (W:w1.heap.size<=J) (a6:b≠J):HZ w0 Zi Z (hl++[.blk b o,.blk J o']) w:=by
 have H1:=H.tG X hb Y
 have H2:Hp w0 ((hl++[.blk b o])++[.blk J o']) w:=by
  refine Hp.add H1.hp (.blk J o') a1 (λc G=>by simp only[Own.at,Option.some.injEq]at G;subst G;exact .inl (Nat.le_trans H.sz W)) λx hx c G=>?_
  simp only[Own.at,ne_eq,Option.some.injEq]
  rcases List.mem_append.1 hx with hx|hx
  · have:=H.lt x hx c G
    omega
  · obtain rfl:x=.blk b o:=by simpa using hx
    simp only[Own.at,Option.some.injEq]at G
    omega
 rw[List.append_assoc]at H2
 refine⟨H2,H1.zin,λx hx c G=>?_,H.sub,H.new⟩
 rcases List.mem_append.1 hx with hx|hx
 ·exact H.off x hx c G
 · simp only[List.mem_cons,List.not_mem_nil,or_false]at hx
   rcases hx with rfl|rfl<;>· simp only[Own.at,Option.some.injEq]at G;subst G;exact H.Cd (by assumption)
def FZ.add(Z:FZ) (b:Nat) (o:Obj):FZ:=λc=>if c=b then some o else Z c
theorem FZ.jM{b:Nat}{o:Obj}(h:Z b=none):Z.sub (Z.add b o):=λc u G=>by
 unfold FZ.add
 split
 ·rename_i e;rw[e,h]at G;cases G
 ·exact G
theorem HZ.freeze(H:HZ w0 Zi Z hl w) (X:Ext w w'){b:Nat}{o:Obj}(Y:w'.heap[b]?=some o) (J:w.heap.size<=b):HZ w0 Zi (Z.add b o) hl w':=by
 refine⟨H.hp.ext X,λc u G=>?_,λx W c G=>?_,H.sub.trans (FZ.jM (H.Cd J)),λc u G=>?_⟩
 · unfold FZ.add at G
   split at G
   ·rename_i e;rw[e,Y];exact G
   ·exact H.zin.ext X c u G
 · have:=H.lt x W c G
   unfold FZ.add
   rw[if_neg (by omega)]
   exact H.off x W c G
 · unfold FZ.add at G
   split at G
   ·right;left;have:=H.sz;omega
   ·exact H.new c u G
theorem bx.add{α:Type}{enc:α->List Value}{sz:Nat}{data:List α}{b c:Nat}{e:TypeId}{fz:Nat × Nat}{cs:List Value}(hd:data.flatMap enc=cs) (G:data.length<=c):bx (Z.add b (.cells cs.toArray e fz)) (.slice (some ⟨b,0,none⟩) data.length c) sz enc data:=
 .inr ⟨b,0,c,cs,e,fz,rfl,G,by simp[FZ.add],λj u H=>by rw[Nat.zero_add,<- hd];exact H⟩
end
section
variable {P:Program}{ops:Array Oper}{Q:Exit->Act->World->Prop}{rest:List Oper}{n:Nm}{dn:Nat}{l:List (Nat × Value)}{a:Act}{w:World}{w0:Bs}{hl:List Own}{Zi Z:FZ}
 {d:Option Nat}{x y:Operand}{t t' ty:TypeId}{pos:String}{af:Array Edge}{g:Option (Nat × Bool)}{V V':Value}{cs:List Value}{e:TypeId}{b off:Nat}{k:IntKind}{p:Int}
theorem An{z:Value}(hz:∀w,(zeroValue e).run P w=.ok z w) (G:List Value) (H:z.cells.toList=G) :
 dt P l w ⟨d,.alloc e,ty,pos,af,g⟩ (λv w'=>v=.pointer (some ⟨w.heap.size,0,none⟩)/\w'=w.alloc (aB G e)):=λn a h K Q W=>by
 have J:z.cells=G.toArray:=by rw[<-H]
 have X:execOp a.eval ⟨d,.alloc e,ty,pos,af,g⟩=Instr.alloc e true (.tuple #[]) >>= λv=>pure (.value v):=rfl
 have e2:(execOp a.eval ⟨d,.alloc e,ty,pos,af,g⟩).run P w=.ok (.value (.pointer (some ⟨w.heap.size,0,none⟩))) (w.alloc (aB G e)):=by
  rw[X]
  simp[Instr.alloc,hz,newVar,newRow,J]
 unfold Oper.wp
 rw[e2]
 exact W _ _ ⟨O,O⟩
theorem pc{sz len:Nat}(ht:P.underlying t=some (.slice e)) (hs:∀w,(sizeOf e).run P w=.ok sz w){z:Value}(hz:∀w,(zeroValue e).run P w=.ok z w){G:Array (Nat × Operand)}(H:(Nat.ble 1 (len*sz)&&Nat.ble (len*sz) 1000)=true)
 {Y:List Value}(J:(Array.range (len*sz)).map (λi=>z.cells[i % z.cells.size]!)=Y.toArray){pl:List (Nat × Nat)}(hp:∀i p,pl.toArray[i]?=some p->p=(i*sz,sz))
 (us:List Value) (cells:List Value) (W:nI l (G.toList.map (·.2))=some us) (hf:me pl Y ((G.toList.map (·.1)).zip us)=some cells) :
 dt P l w ⟨d,.buildSlice t len G,ty,pos,af,g⟩ (λv w'=>v=.slice (some ⟨w.heap.size,0,none⟩) len len/\w'=w.alloc (aB cells e)):=λn a h K Q hk=>by
 simp only[Bool.and_eq_true,Nat.ble_eq]at H
 have e1:execOp a.eval ⟨d,.buildSlice t len G,ty,pos,af,g⟩=Instr.buildSlice t len (G.map λ(i,x)=>(i,a.eval x)) >>= λv=>pure (.value v):=rfl
 have X:=h.nI W
 have e3:(G.map λ(i,x)=>(i,a.eval x)).toList=(G.toList.map (·.1)).zip us:=by
  rw[<-X]
  simp only[Array.toList_map]
  induction G.toList with
  |nil=>rfl
  |cons q qs ih=>simp[ih]
 have e5:=nW (f':=λi=>some (i*sz,sz)) (λi p hi=>by rw[hp i p hi]) _ _ _ (jZ pl _ _ _ hf)
 have e2:(execOp a.eval ⟨d,.buildSlice t len G,ty,pos,af,g⟩).run P w=.ok (.value (.slice (some ⟨w.heap.size,0,none⟩) len len)) (w.alloc (aB cells e)):=by
  rw[e1]
  have h1:¬(len*sz > 2 ^ 24):=by omega
  have h2:¬(len*sz=0):=by omega
  simp only[Instr.buildSlice,Sem.run_bind,run_underlying ht,Result.andThen_ok,hs,h1,if_false,h2,hz,Sem.run_pure,Sem.run_ite,J,e3,e5]
  simp[newRow]
 unfold Oper.wp
 rw[e2]
 exact hk _ _ ⟨O,O⟩
theorem AM(h:Fr n l a) (H:HZ w0 Zi Z hl w){z:Value}(hz:∀w,(zeroValue e).run P w=.ok z w) (J:List Value) (W:z.cells.toList=J) (hd:Nat.blt dn n.n=true)
 (k:∀G b w',Ext w w'->HZ w0 Zi Z (hl++[.blk b (aB J e)]) w'->Fr n ((dn,.pointer (some ⟨b,0,none⟩))::l) G->wpList P ops Q rest G w') :
 wpList P ops Q (⟨some dn,.alloc e,ty,pos,af,none⟩::rest) a w:=
 yX h H.hp hz J W hd λG b w' hb X _ Y=>k G b w' X (by
  refine H.push X _ ?_ (λc hc=>by simp only[Own.at,Option.some.injEq]at hc;omega)
  rename_i H'
  exact H'.get hl.length (by simp)) Y
theorem aZ(h:Fr n l a) (H:HZ w0 Zi Z hl w) (Y:ev l x=some V) (J:List Value) (W:V.cells.toList=J) (hd:Nat.blt dn n.n=true)
 (k:∀G b w',Ext w w'->HZ w0 Zi Z (hl++[.blk b (aB J e)]) w'->Fr n ((dn,.pointer (some ⟨b,0,none⟩))::l) G->wpList P ops Q rest G w') :
 wpList P ops Q (⟨some dn,.box e x,ty,pos,af,none⟩::rest) a w:=
 CI h H.hp Y J W hd λG b w' hb X _ h'=>k G b w' X (by
  refine H.push X _ ?_ (λc hc=>by simp only[Own.at,Option.some.injEq]at hc;omega)
  rename_i H'
  exact H'.get hl.length (by simp)) h'
theorem ap(h:Fr n l a) (H:HZ w0 Zi Z hl w) (i:Nat) (hx:ev l x=some (.pointer (some ⟨b,off,none⟩))) (hy:ev l y=some V) (hi:hl[i]?=some (.blk b (aB cs e)))
 {k:Nat}(hs:∀w,(sizeOf t).run P w=.ok k w) (G:List Value) (W:V.cells.toList=G) (hk:G.length=k) (h1:allOne G=true) (X:off+k<=cs.length)
 (cs':List Value) (Y:putAt cs off G=cs'){hl':List Own}(J:hl.set i (.blk b (aB cs' e))=hl')
 (kk:∀w',HZ w0 Zi Z hl' w'->wpList P ops Q rest a w') :
 wpList P ops Q (⟨none,.store t x y,ty,pos,af,none⟩::rest) a w:=
 yG h H.hp i hx hy hi hs G W hk h1 X cs' Y J λw' H' hz a1=>kk w' (by
  subst J
  refine H.turn i hi H' (λc _ hc=>a1 c λe=>hc (by rw[e];rfl)) (λc hc=>.inl (by simpa[Own.at]using hc)))
theorem cZ{α:Type}{enc:α->List Value}{sz len:Nat}(data:List α) (h:Fr n l a) (H:HZ w0 Zi Z hl w) (ht:P.underlying t=some (.slice e)) (hs:∀w,(sizeOf e).run P w=.ok sz w){z:Value}(hz:∀w,(zeroValue e).run P w=.ok z w){W:Array (Nat × Operand)}(X:(Nat.ble 1 (len*sz)&&Nat.ble (len*sz) 1000)=true)
 {zl:List Value}(Y:(Array.range (len*sz)).map (λi=>z.cells[i % z.cells.size]!)=zl.toArray){pl:List (Nat × Nat)}(hp:∀i p,pl.toArray[i]?=some p->p=(i*sz,sz))
 (us:List Value) (cells:List Value) (a1:nI l (W.toList.map (·.2))=some us) (hf:me pl zl ((W.toList.map (·.1)).zip us)=some cells) (hd:Nat.blt dn n.n=true) (G:data.length=len) (a6:data.flatMap enc=cells)
 (kk:∀J v Z' w',Z.sub Z'->Ext w w'->HZ w0 Zi Z' hl w'->bx Z' v sz enc data->Fr n ((dn,v)::l) J->wpList P ops Q rest J w') :
 wpList P ops Q (⟨some dn,.buildSlice t len W,ty,pos,af,none⟩::rest) a w:=by
 refine st2 h O O hd (pc (w:=w) ht hs hz X Y hp us cells a1 hf) ?_
 rintro v w' ⟨rfl,rfl⟩ J h'
 have hb:(w.alloc (aB cells e)).heap[w.heap.size]?=some (aB cells e):=heap_alloc_new w _
 subst G
 exact kk J _ _ _ (FZ.jM (H.Cd (Nat.le_refl _))) (Ext.alloc _ _) (H.freeze (Ext.alloc w _) hb (Nat.le_refl _)) (bx.add a6 (Nat.le_refl _)) h'
theorem HZ.fc(H:HZ w0 Zi Z hl w) (e:TypeId) (sz:Nat){hl':List Own}(hh:hl++[.row e sz (.slice none 0 0) 0 []]=hl'):HZ w0 Zi Z hl' w:=by
 subst hh
 refine⟨H.hp.zT e sz,H.zin,λx hx b G=>?_,H.sub,H.new⟩
 rcases List.mem_append.1 hx with hx|hx
 ·exact H.off x hx b G
 · obtain rfl:x=.row e sz (.slice none 0 0) 0 []:=by simpa using hx
   simp[Own.at,Value.ownBlock]at G
theorem yD{sz:Nat}(h:Fr n l a) (H:HZ w0 Zi Z hl w) (J:P.underlying t=some (.slice e)) (hs:∀w,(sizeOf e).run P w=.ok sz w) (hd:Nat.blt dn n.n=true)
 (W:∀G v w',Ext w w'->HZ w0 Zi Z (hl++[.row e sz v 0 []]) w'->Fr n ((dn,v)::l) G->wpList P ops Q rest G w') :
 wpList P ops Q (⟨some dn,.buildSlice t 0 #[],ty,pos,af,none⟩::rest) a w:=by
 refine wpList_plain O λK X=>?_
 have Y:execOp a.eval ⟨some dn,.buildSlice t 0 #[],ty,pos,af,none⟩=Instr.buildSlice t 0 ((#[]:Array (Nat × Operand)).map λ(i,x)=>(i,a.eval x)) >>= λv=>pure (.value v):=rfl
 have e2:(execOp a.eval ⟨some dn,.buildSlice t 0 #[],ty,pos,af,none⟩).run P w=.ok (.value (.slice (some ⟨w.heap.size,0,none⟩) 0 0)) (w.alloc (aB [] e)):=by
  rw[Y]
  simp[Instr.buildSlice,run_underlying J,hs,Instr.fill,newRow]
  have er:Array.map (λ_=>(default:Value)) (Array.range 0)=#[]:=by
   apply Array.ext
   ·simp
   · intro i h1
     simp at h1
  first|rfl|rw[er]
 unfold Oper.wp
 rw[e2]
 refine X _ _ (W _ _ _ (Ext.alloc _ _) ?_ (h.put hd _))
 exact H.push (Ext.alloc _ _) _ ⟨by simp,.inr ⟨w.heap.size,0,#[],rfl,Nat.zero_le _,heap_alloc_new w _,Nat.le_refl _,by decide,by simp,by simp⟩⟩ (λb hb=>by simp only[Own.at,Value.ownBlock,Option.some.injEq]at hb;omega)
theorem nt{α:Type}{enc:α->List Value}{sz:Nat}(G:∀a,(enc a).length=sz) (data:List α):(data.flatMap enc).length=data.length*sz:=fe enc sz G data
theorem kX{sz bytes B m:Nat}{sv:Value}{xs:List Value}(Y:P.underlying t=some (.slice e)) (G:(P.info? e).map (λi=>(i.zero.map (·.cells.size),i.size,i.bytes))=some (some sz,sz,bytes)) (H:w.ownsRow B e sz sv m xs) :
 (Builtin.append_ #[t,t] ty #[sv,.slice none 0 0]).run P w=.ok sv w:=by
 obtain⟨inf,J,a1⟩:=Option.map_eq_some_iff.1 G
 rcases H.2 with⟨W,h0⟩|⟨g,cap,a6,W,hB,hg,X,_,_,_⟩
 · subst W
   simp[Builtin.append_,run_underlying Y,sizeOf,typeInfo,J,Builtin.lenOf,run_firstCells_none]
 · subst W
   simp[Builtin.append_,run_underlying Y,sizeOf,typeInfo,J,Builtin.lenOf,run_firstCells_none,X,storeCells]
theorem cg{α:Type}{enc:α->List Value}{sz bytes:Nat}{out data:List α}{sv yv:Value}(h:Fr n l a) (H:HZ w0 Zi Z hl w) (i:Nat) (hi:hl[i]?=some (.row e sz sv out.length (out.flatMap enc))) (ht:P.underlying t=some (.slice e))
 (J:(P.info? e).map (λi=>(i.zero.map (·.cells.size),i.size,i.bytes))=some (some sz,sz,bytes)) (hsz:Nat.ble 1 sz=true) (hx:ev l x=some sv) (hy:ev l y=some yv) (hr:bx Z yv sz enc data)
 (a6:∀a,(enc a).length=sz) (h1:∀a∈data,allOne (enc a)=true) (hmax:out.length+data.length<=9223372036854775807/\(out.length+data.length)*bytes<=140737488355328) (hd:Nat.blt dn n.n=true)
 (kk:∀a' v' w',HZ w0 Zi Z (hl.set i (.row e sz v' (out++data).length ((out++data).flatMap enc))) w'->Fr n ((dn,v')::l) a'->wpList P ops Q rest a' w') :
 wpList P ops Q (⟨some dn,.call { callee:=.builtin .append,args:=#[x,y],argTypes:=#[t,t] },ty,pos,af,none⟩::rest) a w:=by
 rcases hr with⟨rfl,rfl⟩|⟨gb,o,cap,cs',e',b5,hv,bs,hb,hc⟩
 · have e1:execOp a.eval ⟨some dn,.call { callee:=.builtin .append,args:=#[x,y],argTypes:=#[t,t] },ty,pos,af,none⟩=Builtin.append_ #[t,t] ty (#[x,y].map a.eval) >>= λv=>pure (.value v):=rfl
   have e2:(execOp a.eval ⟨some dn,.call { callee:=.builtin .append,args:=#[x,y],argTypes:=#[t,t] },ty,pos,af,none⟩).run P w=.ok (.value sv) w:=by
    rw[e1]
    have:=kX (P:=P) (ty:=ty) ht J (H.hp.eT i hi)
    simp[h.ev hx,h.ev hy,this]
   refine wpList_plain O λK hK=>?_
   unfold Oper.wp
   rw[e2]
   refine hK _ _ (kk _ sv w ?_ (h.put hd sv))
   rw[List.append_nil]
   have:hl.set i (.row e sz sv out.length (out.flatMap enc))=hl:=by
    apply List.ext_getElem?
    intro j
    by_cases hj:i=j
    · subst hj
      rw[List.getElem?_set_self (List.getElem?_eq_some_iff.1 hi).1,hi]
    ·rw[List.getElem?_set_ne hj]
   rw[this]
   exact H
 · subst hv
   have a7:=nt a6 data
   have a8:∀u∈data.flatMap enc,u.oneCell'=true:=λu hu=>by
    obtain⟨a,hm,ha⟩:=List.mem_flatMap.1 hu
    exact ge (h1 a hm) u ha
   have W:w.heap[gb]?=some (.cells cs'.toArray e' b5):=H.zin _ _ hb
   refine wpList_plain O λK hK=>?_
   obtain⟨inf,b6,ad⟩:=Option.map_eq_some_iff.1 J
   simp only[Prod.mk.injEq]at ad
   obtain⟨hz,b7,bb⟩:=ad
   obtain⟨z,bk,bq⟩:=Option.map_eq_some_iff.1 hz
   have ao:1<=sz:=by simpa[Nat.ble_eq]using hsz
   have b0:=H.hp.eT i hi
   obtain⟨v',w',b1,b2,G,_,b3⟩:=run_append_own_at (P:=P) w 0 t ty e inf z sz bytes ht b6 bk b7 bb bq ao sv out.length (out.flatMap enc) b0 ⟨gb,o,none⟩ data.length cap (data.flatMap enc) a7
    (λj u hu=>by rw[Addr.add_lit,gx W];exact hc j u hu) a8 (by simpa[maxLen]using hmax.1) hmax.2 (Nat.zero_le _)
   have e1:execOp a.eval ⟨some dn,.call { callee:=.builtin .append,args:=#[x,y],argTypes:=#[t,t] },ty,pos,af,none⟩=Builtin.append_ #[t,t] ty (#[x,y].map a.eval) >>= λv=>pure (.value v):=rfl
   have e2:(execOp a.eval ⟨some dn,.call { callee:=.builtin .append,args:=#[x,y],argTypes:=#[t,t] },ty,pos,af,none⟩).run P w=.ok (.value v') w':=by
    rw[e1]
    simp[h.ev hx,h.ev hy,b1]
   unfold Oper.wp
   rw[e2]
   have X:∀b',b'<w.heap.size->sv.ownBlock≠some b'->w'.heap[b']?=w.heap[b']?:=λb' W Y=>G.block b' W (λe=>Y e.symm)
   have b4:∀c,(Own.row e sz v' (out.length+data.length) (out.flatMap enc++data.flatMap enc)).at=some c->(Own.row e sz sv out.length (out.flatMap enc)).at=some c\/w.heap.size<=c:=by
    intro c a1
    simp only[Own.at]at a1⊢
    rcases b3 with e|e
    ·exact .inl (by rw[<-e];exact a1)
    · rw[e]at a1
      exact .inr (by simp only[Option.some.injEq]at a1;omega)
   have HH:=H.turn i hi (o':=.row e sz v' (out.length+data.length) (out.flatMap enc++data.flatMap enc)) (H.hp.turn i hi _ b2 G.os G.tape G.output G.size (λb' W Y=>X b' W Y) b4) (λc hc Y=>X c hc Y) b4
   refine hK _ _ (kk _ v' w' ?_ (h.put hd _))
   rw[List.length_append,List.flatMap_append]
   exact HH
theorem HZ.eT{i:Nat}{α:Type}{enc:α->List Value}{sz:Nat}{out:List α}{sv:Value}(H:HZ w0 Zi Z hl w) (hi:hl[i]?=some (.row e sz sv out.length (out.flatMap enc))):Reads w sv sz enc out:=Reads.Cr (H.hp.eT i hi) rfl
theorem HZ.uC{i:Nat}{α:Type}{enc:α->List Value}{sz:Nat}{out:List α}{sv:Value}(H:HZ w0 Zi Z hl w) (hi:hl[i]?=some (.row e sz sv out.length (out.flatMap enc))):bx (ZL Z0 w0 w) sv sz enc out:=by
 rcases(H.hp.eT i hi).2 with⟨G,Y⟩|⟨g,cap,W,G,_,hg,X,_,_,ht⟩
 ·exact .inl ⟨G,List.eq_nil_of_length_eq_zero Y⟩
 · refine .inr ⟨g,0,cap,W.toList,e,(0,0),G,X,?_,λj u J=>?_⟩
   · unfold ZL
     rw[if_pos (H.hp.lo i _ hi g (by rw[G];rfl))]
     simpa using hg
   · rw[<-ht,List.getElem?_take]at J
     rw[Nat.zero_add]
     split at J
     ·exact J
     ·cases J
theorem ZL.none{Z:FZ}{w0 w:World}:(ZL Z w0 w).sub (ZB Z w0.heap.size w):=λb o h=>by
 unfold ZL at h
 unfold ZB
 by_cases G:w0.heap.size<=b
 · rw[if_pos (.inl G)]at h
   rw[if_pos G]
   exact h
 · rw[if_neg (by rintro(h'|h');exact G h';cases h')]at h
   rw[if_neg G]
   exact h
theorem ZL.empty{Z:FZ}{B:Bs}{w:World}:(ZL Z0 B w).sub (ZL Z B w):=λb o h=>by
 unfold ZL at h⊢
 split at h
 ·rw[if_pos (by assumption)];exact h
 ·cases h
theorem HZ.kH{i:Nat}{α:Type}{enc:α->List Value}{sz:Nat}{out:List α}{sv:Value}{w0:World}(H:HZ w0 Zi Z hl w) (hi:hl[i]?=some (.row e sz sv out.length (out.flatMap enc))):bx (ZB Z0 w0.heap.size w) sv sz enc out:=(H.uC hi).sub ZL.none
theorem cW{α:Type}{enc:α->List Value}{sz:Nat}{data:List α}{o:Oper}(h:Fr n l a) (H:HZ w0 Zi Z hl w) (W:o.guard=none) (hd:o.dst=some dn) (G:Nat.blt dn n.n=true) (Y:dt P l w o (λv w'=>bx (ZB Z0 w.heap.size w') v sz enc data/\Ext w w'))
 (k:∀v Z' w',Z.sub Z'->Ext w w'->HZ w0 Zi Z' hl w'->bx Z' v sz enc data->∀J,Fr n ((dn,v)::l) J->wpList P ops Q rest J w'):wpList P ops Q (o::rest) a w:=
 st2 h W hd G Y (by rintro v w' ⟨hr,X⟩;exact k v _ w' (ZB.of H.zin X) X (H.BR X) (hr.sub ZB.empty))
end
section
variable {P:Program}{Q:Exit->Act->World->Prop}{n:Nm}{l:List (Nat × Value)}{a:Act}{w:World}
theorem CM{id:Nat}{ol:List Oper}{y:Code}(h:Fr n l a) (J:P.follows .mixedOrders=true) (W:oz ol.toArray ol.length=true)
 (H:bm P ol.toArray w n (λL A=>∀G w',Ext w w'->sK n L G w'->io w L A G w'->y.wp P Q G w') (eqs l) [] ol):(Code.seq (.region id ol.toArray true) y).wp P Q a w:=
 wp_seq (vY h J W H)
theorem wD{id:Nat}{ol:List Oper}(h:Fr n l a) (J:P.follows .mixedOrders=true) (W:oz ol.toArray ol.length=true)
 (H:bm P ol.toArray w n (λL A=>∀G w',Ext w w'->sK n L G w'->io w L A G w'->Q .normal G w') (eqs l) [] ol):(Code.region id ol.toArray true).wp P Q a w:=
 vY h J W H
theorem Bx{id:Nat}{ol:List Oper}{y:Code}(m:Nat) (h:Fr n l a) (J:P.follows .mixedOrders=true) (W:ou ol.toArray m=true)
 (H:∀K:Act->World->Prop,(∀a w,y.wp P Q a w->K a w)->bm P ol.toArray w n (λL A=>∀G w',Ext w w'->sK n L G w'->io w L A G w'->wpList P ol.toArray (Exit.then K Q) (ol.drop m) G w') (eqs l) [] (ol.take m)):(Code.seq (.region id ol.toArray true) y).wp P Q a w:=
 wp_seq_k λK X=>uw m h J W (H K X)
theorem zh{id:Nat}{ol:List Oper}(m:Nat) (h:Fr n l a) (J:P.follows .mixedOrders=true) (W:ou ol.toArray m=true)
 (H:bm P ol.toArray w n (λL A=>∀G w',Ext w w'->sK n L G w'->io w L A G w'->wpList P ol.toArray Q (ol.drop m) G w') (eqs l) [] (ol.take m)):(Code.region id ol.toArray true).wp P Q a w:=
 uw m h J W H
end
section
variable {P:Program}{ops:Array Oper}{w1:World}{n:Nm}{d:Nat}{F:List (Nat × RL)->List Nat->Prop}{L:List (Nat × RL)}{A:List Nat}{rest:List Oper}{o:Oper}{V:Value}
def eW(L:List (Nat × RL)):List Nat->List (Nat × Value)
 |[]=>[]
 |s::S=>match lookL L s with
  |some (.eq v)=>(s,v)::eW L S
  |_=>eW L S
def rV(S T:List Nat):Bool:=S.all λs=>T.any (Nat.beq s)
theorem ju{S T:List Nat}(h:rV S T=true):∀s∈S,s∈T:=λs hs=>by
 obtain⟨t,H,G⟩:=List.any_eq_true.1 (List.all_eq_true.1 h s hs)
 rwa[Nat.eq_of_beq_eq_true G]
theorem xr{l:List (Nat × Value)}{s i:Nat}{v V:Value}(h:look ((s,v)::l) i=some V):(s=i/\v=V)\/look l i=some V:=by
 simp only[look]at h
 cases G:Nat.beq s i with
 |true=>
  rw[G]at h
  exact .inl ⟨Nat.eq_of_beq_eq_true G,by simpa using h⟩
 |false=>rw[G]at h;exact .inr h
theorem Fr.add{l:List (Nat × Value)}{a:Act}(h:Fr n l a){s:Nat}{v:Value}(G:a.tmps.getD s undef=v):Fr n ((s,v)::l) a:=
 ⟨h.size,h.defers,λi V e=>by
  rcases xr e with⟨rfl,rfl⟩|e
  ·exact G
  ·exact h.has i V e⟩
theorem Ea{a:Act}(hs:a.tmps.size=n.n) (hd:a.defers=n.ds):Fr n [] a:=⟨hs,hd,λi v e=>by cases e⟩
theorem gC{a:Act}{w:World}(hs:a.tmps.size=n.n) (hd:a.defers=n.ds):∀(S:List Nat),(∀s∈S,∀r,lookL L s=some r->r.holds w (a.tmps.getD s undef))->Fr n (eW L S) a
 |[],_=>Ea hs hd
 |s::S,h=>by
  have G:=gC hs hd S λt H=>h t (by simp[H])
  unfold eW
  cases hl:lookL L s with
  |none=>exact G
  |some r=>
   cases r with
   |eq v=>exact G.add (h s (by simp) _ hl)
   |rel R=>exact G
   |ivl R=>exact G
def m5(L:List (Nat × RL)) (G:List (Nat × Value)->Prop) (w:World):List Nat->List (Nat × Value)->Prop
 |[],H=>G H
 |s::S,H=>match lookL L s with
  |some (.eq v)=>m5 L G w S ((s,v)::H)
  |some (.rel R)=>∀v,R w v->m5 L G w S ((s,v)::H)
  |some (.ivl R)=>∀v,(∃lo hi,R lo hi w v)->m5 L G w S ((s,v)::H)
  |none=>m5 L G w S H
theorem jj{a:Act}{w:World}{G:List (Nat × Value)->Prop}:∀(S:List Nat) (H:List (Nat × Value)),(∀s∈S,∀r,lookL L s=some r->r.holds w (a.tmps.getD s undef))->Fr n H a->m5 L G w S H->∃l,Fr n l a/\G l
 |[],H,_,W,J=>⟨H,W,J⟩
 |s::S,H,h,W,J=>by
  have X:∀t∈S,∀r,lookL L t=some r->r.holds w (a.tmps.getD t undef):=λt Y=>h t (by simp[Y])
  unfold m5 at J
  cases hl:lookL L s with
  |none=>rw[hl]at J;exact jj S H X W J
  |some r=>
   rw[hl]at J
   cases r with
   |eq v=>exact jj S _ X (W.add (h s (by simp) _ hl)) J
   |rel R=>exact jj S _ X (W.add O) (J _ (h s (by simp) _ hl))
   |ivl R=>exact jj S _ X (W.add O) (J _ (h s (by simp) _ hl))
def lj(P:Program) (l:List (Nat × Value)) (w:World) (o:Oper) (fr:Bool) (r:RL):Prop:=
 dt P l w o (λv w'=>Ext w w'/\r.at w.heap.size w'.heap.size w' v/\(fr=true->∀b,ownB v=some b->w.heap.size<=b/\b<w'.heap.size))
theorem dt.mono{l:List (Nat × Value)}{w:World}{R G:Value->World->Prop}(h:dt P l w o R) (H:∀v w',R v w'->G v w'):dt P l w o G:=λn a J K Q W=>h n a J K Q λv w' X=>W v w' (H v w' X)
theorem cH.bC{l:List (Nat × Value)}{w:World}(h:cH P l w o V):lj P l w o false (.eq V):=h.Dv.mono (by rintro v w' ⟨rfl,rfl⟩;exact⟨Ext.refl _,O,λh=>by cases h⟩)
theorem cH.jw{l:List (Nat × Value)}{w:World}{R:World->Value->Prop}(h:cH P l w o V) (G:R w V):lj P l w o false (.rel R):=h.Dv.mono (by rintro v w' ⟨rfl,rfl⟩;exact⟨Ext.refl _,G,λh=>by cases h⟩)
theorem dt.bC{l:List (Nat × Value)}{w:World}(h:dt P l w o (λv w'=>v=V/\Ext w w')):lj P l w o false (.eq V):=h.mono (by rintro v w' ⟨rfl,X⟩;exact⟨X,O,λh=>by cases h⟩)
theorem dt.jw{l:List (Nat × Value)}{w:World}{R:World->Value->Prop}{G:Value->World->Prop}(h:dt P l w o G) (H:∀v w',G v w'->R w' v/\Ext w w'):lj P l w o false (.rel R):=h.mono (λv w' J=>⟨(H v w' J).2,(H v w' J).1,λh=>by cases h⟩)
theorem wT(h:F L A):bm P ops w1 n F L A []:=h
theorem aT(S:List Nat) (Y:rV S (o.looksAt ops)=true) (hg:o.guard=none) (hd:o.dst=some d) (hdn:Nat.blt d n.n=true) (fr:Bool) (r:RL) (G:r.mW) (hv:∀w,Ext w1 w->m5 L (λl=>lj P l w o fr r) w S [])
 (k:bm P ops w1 n F ((d,r)::L) (if fr=true then d::A else A) rest):bm P ops w1 n F L A (o::rest):=by
 refine⟨d,r,fr,hd,by simpa[Nat.blt_eq]using hdn,G,λa w X H J hF=>.inr ⟨bE hg,λK Q hk=>?_⟩,k⟩
 obtain⟨l,hf,hq⟩:=jj (n:=n) S [] (λs hs=>hF s (ju Y s hs)) (Ea H J) (hv w X)
 exact hq n a hf K Q λv w' W=>hk v w' W.1 W.2.1 W.2.2
theorem f1(S:List Nat) (W:rV S (o.looksAt ops)=true) (Y:o.guard=none) (hd:o.dst=some d) (hdn:Nat.blt d n.n=true) (hv:∀w,Ext w1 w->cH P (eW L S) w o V)
 (k:bm P ops w1 n F ((d,.eq V)::L) A rest):bm P ops w1 n F L A (o::rest):=by
 refine⟨d,.eq V,false,hd,by simpa[Nat.blt_eq]using hdn,trivial,λa w X G H hF=>.inr ⟨bE Y,λK Q hk=>?_⟩,by simpa using k⟩
 exact(hv w X).bC n a (gC G H S (λs hs=>hF s (ju W s hs))) K Q λv w' J=>hk v w' J.1 J.2.1 J.2.2
theorem f2(S:List Nat) (W:rV S (o.looksAt ops)=true) (Y:o.guard=none) (hd:o.dst=some d) (hdn:Nat.blt d n.n=true) (hv:∀w,Ext w1 w->dt P (eW L S) w o (λv w'=>v=V/\Ext w w'))
 (k:bm P ops w1 n F ((d,.eq V)::L) A rest):bm P ops w1 n F L A (o::rest):=by
 refine⟨d,.eq V,false,hd,by simpa[Nat.blt_eq]using hdn,trivial,λa w X G H hF=>.inr ⟨bE Y,λK Q hk=>?_⟩,by simpa using k⟩
 exact(hv w X).bC n a (gC G H S (λs hs=>hF s (ju W s hs))) K Q λv w' J=>hk v w' J.1 J.2.1 J.2.2
theorem mZ(S:List Nat){j g:Nat}{b c:Bool}(hS:rV S (o.looksAt ops)=true) (hg:o.guard=some (j,b)) (hj:(ops[j]?).bind (·.dst)=some g) (G:ln (eW L S) g b c) (hd:o.dst=some d) (hdn:Nat.blt d n.n=true)
 (hv:c=true->∀w,Ext w1 w->cH P (eW L S) w o V) (k:bm P ops w1 n F ((d,.eq (gw c V))::L) A rest):bm P ops w1 n F L A (o::rest):=by
 refine⟨d,.eq (gw c V),false,hd,by simpa[Nat.blt_eq]using hdn,trivial,λa w X H J hF=>?_,by simpa using k⟩
 have hf:=gC (n:=n) H J S (λs hs=>hF s (ju hS s hs))
 obtain⟨U,hU,hc⟩:=G
 have W:=gV hf hg hj hU
 rw[hc]at W
 cases c with
 |false=>exact .inl ⟨W,O⟩
 |true=>exact .inr ⟨W,λK Q hk=>(hv O w X).bC n a hf K Q λv w' Y=>hk v w' Y.1 Y.2.1 Y.2.2⟩
theorem DJ(S:List Nat){j g:Nat}{b c:Bool}(hS:rV S (o.looksAt ops)=true) (hg:o.guard=some (j,b)) (hj:(ops[j]?).bind (·.dst)=some g) (G:ln (eW L S) g b c) (hd:o.dst=some d) (hdn:Nat.blt d n.n=true)
 (hv:c=true->∀w,Ext w1 w->dt P (eW L S) w o (λv w'=>v=V/\Ext w w')) (k:bm P ops w1 n F ((d,.eq (gw c V))::L) A rest):bm P ops w1 n F L A (o::rest):=by
 refine⟨d,.eq (gw c V),false,hd,by simpa[Nat.blt_eq]using hdn,trivial,λa w X H J hF=>?_,by simpa using k⟩
 have hf:=gC (n:=n) H J S (λs hs=>hF s (ju hS s hs))
 obtain⟨U,hU,hc⟩:=G
 have W:=gV hf hg hj hU
 rw[hc]at W
 cases c with
 |false=>exact .inl ⟨W,O⟩
 |true=>exact .inr ⟨W,λK Q hk=>(hv O w X).bC n a hf K Q λv w' Y=>hk v w' Y.1 Y.2.1 Y.2.2⟩
theorem xk(S:List Nat){j g:Nat}{b c:Bool}(hS:rV S (o.looksAt ops)=true) (hg:o.guard=some (j,b)) (hj:(ops[j]?).bind (·.dst)=some g) (hd:o.dst=some d) (hdn:Nat.blt d n.n=true)
 (hv:∀w,Ext w1 w->m5 L (λl=>ln l g b c/\(c=true->lj P l w o false (.eq V))) w S []) (k:bm P ops w1 n F ((d,.eq (gw c V))::L) A rest):bm P ops w1 n F L A (o::rest):=by
 refine⟨d,.eq (gw c V),false,hd,by simpa[Nat.blt_eq]using hdn,trivial,λa w X G H hF=>?_,by simpa using k⟩
 obtain⟨l,hf,J,hq⟩:=jj (n:=n) S [] (λs hs=>hF s (ju hS s hs)) (Ea G H) (hv w X)
 obtain⟨U,hU,hc⟩:=J
 have W:=gV hf hg hj hU
 rw[hc]at W
 cases c with
 |false=>exact .inl ⟨W,O⟩
 |true=>exact .inr ⟨W,λK Q hk=>hq O n a hf K Q λv w' Y=>hk v w' Y.1 Y.2.1 Y.2.2⟩
theorem vE(S:List Nat){j g:Nat}{b c:Bool}{R:World->Value->Prop}(hS:rV S (o.looksAt ops)=true) (hg:o.guard=some (j,b)) (hj:(ops[j]?).bind (·.dst)=some g) (hd:o.dst=some d) (hdn:Nat.blt d n.n=true) (G:zB R)
 (hv:∀w,Ext w1 w->m5 L (λl=>ln l g b c/\(c=true->lj P l w o false (.rel R))) w S []) (k:bm P ops w1 n F ((d,.rel (λw v=>c=true->R w v))::L) A rest):bm P ops w1 n F L A (o::rest):=by
 refine⟨d,.rel (λw v=>c=true->R w v),false,hd,by simpa[Nat.blt_eq]using hdn,(λw w' v X h H=>G w w' v X (h H)),λa w X J W hF=>?_,by simpa using k⟩
 obtain⟨l,hf,Y,hq⟩:=jj (n:=n) S [] (λs hs=>hF s (ju hS s hs)) (Ea J W) (hv w X)
 obtain⟨U,hU,H⟩:=Y
 have hw:=gV hf hg hj hU
 rw[H]at hw
 cases c with
 |false=>exact .inl ⟨hw,λh=>by cases h⟩
 |true=>exact .inr ⟨hw,λK Q hk=>hq O n a hf K Q λv w' hr=>hk v w' hr.1 (λ_=>hr.2.1) hr.2.2⟩
def u7(L:List (Nat × RL)) (w:World) (G:List (Nat × Value)->Prop):List Nat->List (Nat × Value)->Prop
 |[],H=>G H
 |s::S,H=>match lookL L s with
  |some (.eq v)=>u7 L w G S ((s,v)::H)
  |some (.rel R)=>∃v,R w v/\u7 L w G S ((s,v)::H)
  |some (.ivl R)=>∃v,(∃lo hi,R lo hi w v)/\u7 L w G S ((s,v)::H)
  |none=>u7 L w G S H
theorem m6{a:Act}{w:World}(h:sK n L a w):∀(S:List Nat) (G:List (Nat × Value)),Fr n G a->u7 L w (λl=>Fr n l a) S G
 |[],G,H=>H
 |s::S,G,H=>by
  unfold u7
  cases hl:lookL L s with
  |none=>exact m6 h S G H
  |some r=>
   cases r with
   |eq v=>exact m6 h S _ (H.add (h.has s _ hl))
   |rel R=>exact⟨_,h.has s _ hl,m6 h S _ (H.add O)⟩
   |ivl R=>exact⟨_,h.has s _ hl,m6 h S _ (H.add O)⟩
theorem sK.out{a:Act}{w:World}(h:sK n L a w) (S:List Nat):u7 L w (λl=>Fr n l a) S []:=m6 h S [] (Ea h.size h.defers)
theorem io.zt{A:List Nat}{a:Act}{w1 w:World}{l:List (Nat × Value)}(G:io w1 L A a w) (h:Fr n l a){s b off:Nat}(hs:A.any (Nat.beq s)=true) (hl:look l s=some (.pointer (some ⟨b,off,none⟩))):w1.heap.size<=b:=by
 obtain⟨t,H,J⟩:=List.any_eq_true.1 hs
 obtain rfl:=Nat.eq_of_beq_eq_true J
 exact(G.lo s H b (by rw[h.has s _ hl];rfl)).1
theorem io.ne'{A:List Nat}{a:Act}{w1 w:World}{l:List (Nat × Value)}(hA:io w1 L A a w) (h:Fr n l a){s t b Y off G:Nat}(hs:A.any (Nat.beq s)=true) (ht:A.any (Nat.beq t)=true) (H:Nat.beq s t=false) (hl:look l s=some (.pointer (some ⟨b,off,none⟩))) (hl':look l t=some (.pointer (some ⟨Y,G,none⟩))):b≠Y:=by
 obtain⟨s',J,hb⟩:=List.any_eq_true.1 hs
 obtain rfl:=Nat.eq_of_beq_eq_true hb
 obtain⟨t',W,X⟩:=List.any_eq_true.1 ht
 obtain rfl:=Nat.eq_of_beq_eq_true X
 intro e
 subst e
 refine hA.ne s J t W (λe=>by subst e;rw[Nat.beq_refl]at H;cases H) b (by rw[h.has s _ hl];rfl) (by rw[h.has t _ hl'];rfl)
variable {dn:Nat}{t ty e:TypeId}{pos:String}{af:Array Edge}{x y:Operand}{α:Type}{enc:α->List Value}{sz:Nat}{data:List α}{k:IntKind}{p:Int}
theorem gu{z:Value}(hz:∀w,(zeroValue e).run P w=.ok z w) (G:List Value) (H:z.cells.toList=G) (J:Nat.blt dn n.n=true)
 (k:bm P ops w1 n F ((dn,.rel (λw v=>∃b,v=.pointer (some ⟨b,0,none⟩)/\w.heap[b]?=some (aB G e)))::L) (dn::A) rest):bm P ops w1 n F L A (⟨some dn,.alloc e,ty,pos,af,none⟩::rest):=by
 refine aT [] O O O J true (.rel (λw v=>∃b,v=.pointer (some ⟨b,0,none⟩)/\w.heap[b]?=some (aB G e))) (λw w' v X h=>?_) (λw X=>?_) (by simpa using k)
 · obtain⟨b,Y,h2⟩:=h
   exact⟨b,Y,X.block h2⟩
 · refine(An (P:=P) (l:=[]) (w:=w) hz G H).mono ?_
   rintro v w' ⟨rfl,rfl⟩
   refine⟨Ext.alloc _ _,⟨_,O,heap_alloc_new w _⟩,λ_ b W=>?_⟩
   simp only[ownB,Option.some.injEq]at W
   subst W
   refine⟨Nat.le_refl _,(Array.getElem?_eq_some_iff.1 (heap_alloc_new w (aB G e))).1⟩
theorem aI{G:α}{j:Nat}:zB (λw v=>At w v enc G j):=λw w' v X h=>h.ext X
theorem jG{Z:FZ}{B:Nat}:zB (λw v=>bx (ZB Z B w) v sz enc data):=λw w' v X h=>h.sub (ZB.grow X)
theorem fh{l:List (Nat × Value)}{w:World}{gd:Option (Nat × Bool)}(W:P.underlying t=some (.slice e)) (hs:∀w,(sizeOf e).run P w=.ok sz w) (X:ev l x=some V) (hy:ev l y=some (.int k p))
 (Y:Reads w V sz enc data) (G:∀a,(enc a).length=sz) (H:α) (hp:0<=p) (J:data[p.toNat]?=some H) :
 lj P l w ⟨some dn,.indexAddr t x y,ty,pos,af,gd⟩ false (.rel (λw v=>At w v enc H 0)):=by
 obtain⟨V',h1,h2⟩:=rY (P:=P) (l:=l) (dn:=dn) (ty:=ty) (pos:=pos) (af:=af) (gd:=gd) true W hs (λ_=>X) (λ_=>hy) Y G H (λ_=>hp) (λ_=>J)
 exact(h1 O w).jw (h2 O)
theorem dU{l:List (Nat × Value)}{w:World}{gd:Option (Nat × Bool)}{G:α}{j:Nat}{H:Array Field}{f:Field}{i J W:Nat}(X:ev l x=some V) (Y:At w V enc G j) (hu:P.underlying t=some (.struct H)) (hf:H.toList[i]?=some f)
 (hs:∀w,(sizeOf f.type).run P w=.ok J w) (hk:Nat.ble 1 J=true) (hj:j+f.offset=W) :
 lj P l w ⟨some dn,.fieldAddr t x i,ty,pos,af,gd⟩ false (.rel (λw v=>At w v enc G W)):=by
 obtain⟨V',h1,h2⟩:=rF (P:=P) (l:=l) (dn:=dn) (ty:=ty) (pos:=pos) (af:=af) (gd:=gd) true (λ_=>X) (λ_=>Y) hu hf hs hk hj
 exact(h1 O w).jw (h2 O)
theorem pA{Z:FZ}{l:List (Nat × Value)}{w:World}{gd:Option (Nat × Bool)}{len:Nat}(data:List α) (hZ:Z.inn w1) (X:Ext w1 w) (ht:P.underlying t=some (.slice e)) (hs:∀w,(sizeOf e).run P w=.ok sz w){z:Value}(hz:∀w,(zeroValue e).run P w=.ok z w){H:Array (Nat × Operand)}(J:(Nat.ble 1 (len*sz)&&Nat.ble (len*sz) 1000)=true)
 {zl:List Value}(W:(Array.range (len*sz)).map (λi=>z.cells[i % z.cells.size]!)=zl.toArray){pl:List (Nat × Nat)}(hp:∀i p,pl.toArray[i]?=some p->p=(i*sz,sz))
 (us:List Value) (cells:List Value) (Y:nI l (H.toList.map (·.2))=some us) (hf:me pl zl ((H.toList.map (·.1)).zip us)=some cells) (G:data.length=len) (a1:data.flatMap enc=cells) :
 lj P l w ⟨some dn,.buildSlice t len H,ty,pos,af,gd⟩ false (.rel (λw v=>bx (ZB Z w1.heap.size w) v sz enc data)):=by
 refine(pc (w:=w) ht hs hz J W hp us cells Y hf).jw ?_
 rintro v w' ⟨rfl,rfl⟩
 refine⟨.inr ⟨w.heap.size,0,len,cells,e,(0,0),by rw[G],by omega,?_,λj u hu=>by rw[Nat.zero_add,<- a1];exact hu⟩,Ext.alloc _ _⟩
 unfold ZB
 rw[if_pos X.size]
 exact heap_alloc_new w _
end
end Go.Stp
end
section
namespace Go.Stp
open Go.RowKit
section
variable {P:Program}{ops:Array Oper}
def R1(P:Program) (ops:Array Oper) (o:Oper) (a:Act) (w:World) (v:Value) (w':World):Prop:=
 (Region.wanted o (yielded ops a.tmps)=false/\v=undef/\w'=w)\/
 (Region.wanted o (yielded ops a.tmps)=true/\((execOp a.eval o).run P w=.ok (.value v) w'\/((execOp a.eval o).run P w=.ok .skip w'/\v=undef)))
theorem R1.put{o:Oper}{v u:Value}{a:Act}{w w':World}{d:Option Tmp}(hs:∀cs b,o.op≠.select cs b) (h:∀e,d=some e->e ∉ o.looksAt ops):R1 P ops o (a.put d u) w v w'<->R1 P ops o a w v w':=by
 unfold R1
 rw[wanted_put o a d u h,execOp_put o hs a d u h]
def lC(P:Program) (ops:Array Oper) (F:Act->World->Prop):Nat->Array Bool->Act->World->Prop
 |0,listed,a,w=>Region.ready .any ops listed=[]/\F a w
 |f+1,listed,a,w=>(Region.ready .any ops listed=[]->F a w)/\
  ∀i∈Region.ready .any ops listed,∃o v w',ops[i]?=some o/\R1 P ops o a w v w'/\lC P ops F f (listed.setIfInBounds i true) (a.put o.dst v) w'
theorem ig{Q:Exit->Act->World->Prop}:∀(f:Nat) (listed:Array Bool) (a:Act) (w:World),lC P ops (λa w=>Q .normal a w) f listed a w->wpAny P .any ops Q f listed a w
 |0,_,_,_,h=>h
 |f+1,listed,a,w,h=>⟨h.1,λi hi=>by
  obtain⟨o,v,w',W,G,X⟩:=h.2 i hi
  have H:=ig (Q:=Q) f _ _ _ X
  unfold wpOp
  simp only[W]
  rcases G with⟨J,rfl,rfl⟩|⟨J,G⟩
  · rw[if_neg (by rw[J];exact Bool.false_ne_true)]
    exact H
  · rw[if_pos J]
    left
    unfold Oper.wp
    rcases G with G|⟨G,rfl⟩
    ·rw[G];exact H
    ·rw[G];exact H⟩
theorem pZ{F:Act->World->Prop}{i:Nat}{oi:Oper}{v:Value}(hi:ops[i]?=some oi) (a1:∀(j:Nat) (o:Oper) cs b,ops[j]?=some o->o.op≠.select cs b) :
 ∀(f:Nat) (listed:Array Bool) (a:Act) (w:World),
  (∀j oj,ops[j]?=some oj->j≠i->listed.getD j true=false->(∀e∈oj.after,Region.binds .any e=true->e.on≠i)->oi.apart ops oj=true)->
  i∈Region.ready .any ops listed->(∀w,R1 P ops oi a w v w)->
  lC P ops F f (listed.setIfInBounds i true) (a.put oi.dst v) w->lC P ops F (f+1) listed a w:=by
 intro f
 induction f with
 |zero=>
  intro listed a w _ hr hy H
  refine⟨λh=>(by rw[h]at hr;cases hr),λj hj=>?_⟩
  by_cases G:j=i
  ·subst G;exact⟨oi,v,w,hi,hy w,H⟩
  · have:=ready_mono hj G
    rw[H.1]at this
    cases this
 |succ f ih=>
  intro listed a w J hr hy H
  have W:=(mem_ready.1 hr).1
  refine⟨λh=>(by rw[h]at hr;cases hr),λj hj=>?_⟩
  by_cases G:j=i
  ·subst G;exact⟨oi,v,w,hi,hy w,H⟩
  · obtain⟨o,v',w',ho,ao,b0⟩:=H.2 j (ready_mono hj G)
    obtain⟨a6,oj,X,a7⟩:=mem_ready.1 hj
    obtain rfl:oj=o:=Option.some.inj (X.symm.trans ho)
    have a8:∀e∈oj.after,Region.binds .any e=true->e.on≠i:=λe he hb b1=>by
     have h1:=a7 e he hb
     rw[b1,getD_both W]at h1
     cases h1
    obtain⟨h1,h2,h3⟩:=Oper.apart_spec (J j oj X G a6 a8)
    have Y:∀k ok,ops[k]?=some ok->k≠i->(listed.setIfInBounds j true).getD k true=false->
     (∀e∈ok.after,Region.binds .any e=true->e.on≠i)->oi.apart ops ok=true:=λk ok hk b2 W b3=>by
     refine J k ok hk b2 ?_ b3
     by_cases ad:j=k
     ·subst ad;exact a6
     ·rw[getD_set_ne true ad]at W;exact W
    refine⟨oj,v',w',X,(R1.put (a1 j oj · · X) h1).1 ao,ih (listed.setIfInBounds j true) _ w' Y (ready_mono hr (Ne.symm G)) (λw=>(R1.put (a1 i oi · · hi) h3).2 (hy w)) ?_⟩
    rw[Array.setIfInBounds_comm _ _ G,<- Act.put_comm a v v' h2]
    exact b0
def ss(ops:Array Oper) (listed:Array Bool) (i:Nat):Bool:=Region.noSelect ops&&(Region.ready .any ops listed).contains i&&Region.free .any ops listed i
variable {F:Act->World->Prop}{n:Nm}{d:Nat}{l:List (Nat × Value)}{a:Act}{w:World}{V:Value}
theorem il{f i:Nat}{oi:Oper}{listed G:Array Bool}(h:Fr n l a) (hi:ops[i]?=some oi) (Y:oi.guard=none) (hd:oi.dst=some d) (J:Nat.blt d n.n=true) (hv:∀w,cH P l w oi V) (W:ss ops listed i=true)
 (hl:listed.setIfInBounds i true=G) (k:∀X,Fr n ((d,V)::l) X->lC P ops F f G X w):lC P ops F (f+1) listed a w:=by
 simp only[ss,Bool.and_eq_true]at W
 obtain⟨⟨H,hr⟩,hf⟩:=W
 subst hl
 refine pZ hi (Region.noSelect_spec H) f listed a w (Region.free_spec hi hf) (by simpa using hr) (λw=>.inr ⟨bE Y,.inl (hv w n a h)⟩) ?_
 rw[hd]
 exact k _ (h.put J V)
theorem x9{f:Nat}{listed:Array Bool}{r:List Nat}(H:Region.ready .any ops listed=r) (G:r≠[]) (k:∀i∈r,∃o v w',ops[i]?=some o/\R1 P ops o a w v w'/\lC P ops F f (listed.setIfInBounds i true) (a.put o.dst v) w'):lC P ops F (f+1) listed a w:=by
 subst H
 exact⟨λh=>absurd h G,k⟩
theorem Ce{f:Nat}{listed:Array Bool}(G:Region.ready .any ops listed=[]) (k:F a w):lC P ops F f listed a w:=by
 cases f with
 |zero=>exact⟨G,k⟩
 |succ f=>exact⟨λ_=>k,λi hi=>by rw[G]at hi;cases hi⟩
theorem R1.val{o:Oper}(h:Fr n l a) (G:o.guard=none) (H:cH P l w o V):R1 P ops o a w V w:=.inr ⟨bE G,.inl (H n a h)⟩
theorem lS{f i:Nat}{o:Oper}{v:Value}{w':World}{listed G:Array Bool}(H:Region.ready .any ops listed=[i]) (hi:ops[i]?=some o) (J:R1 P ops o a w v w') (hl:listed.setIfInBounds i true=G)
 (k:lC P ops F f G (a.put o.dst v) w'):lC P ops F (f+1) listed a w:=by
 subst hl
 refine x9 H (by simp) λj hj=>?_
 obtain rfl:j=i:=by simpa using hj
 exact⟨o,v,w',hi,J,k⟩
theorem DE{f i j:Nat}{o o':Oper}{v H:Value}{w' G:World}{listed:Array Bool}(W:Region.ready .any ops listed=[i,j]) (hi:ops[i]?=some o) (X:ops[j]?=some o') (Y:R1 P ops o a w v w') (J:R1 P ops o' a w H G)
 (k:lC P ops F f (listed.setIfInBounds i true) (a.put o.dst v) w') (k':lC P ops F f (listed.setIfInBounds j true) (a.put o'.dst H) G):lC P ops F (f+1) listed a w:=by
 refine x9 W (by simp) λm hm=>?_
 rcases(by simpa using hm:m=i\/m=j)with rfl|rfl
 ·exact⟨o,v,w',hi,Y,k⟩
 ·exact⟨o',H,G,X,J,k'⟩
variable {x y:Operand}{t ty:TypeId}{pos:String}{af:Array Edge}{g:Option (Nat × Bool)}{e:TypeId}{k:IntKind}{p:Int}{dd:Option Nat}
theorem rB{b off m cap sz:Nat}(G:P.underlying t=some (.slice e)) (hs:∀w,(sizeOf e).run P w=.ok sz w) (H:ev l x=some (.slice (some ⟨b,off,none⟩) m cap)) (hy:ev l y=some (.int k p)) (hp:0<=p/\p<m) :
 cH P l w ⟨dd,.indexAddr t x y,ty,pos,af,g⟩ (.pointer (some ⟨b,off+p.toNat*sz,none⟩)):=λn a h=>by
 have J:execOp a.eval ⟨dd,.indexAddr t x y,ty,pos,af,g⟩=Instr.indexAt t (a.eval x) (a.eval y) >>= λv=>pure (.value v):=rfl
 rw[J,h.ev H,h.ev hy]
 simp[Instr.indexAt,asIntOf,run_underlying G,hp,hs,Addr.add_lit]
theorem lv{o:Oper}{b off:Nat}{cs:List Value}{u:Value}(h:Fr n l a) (Y:o=⟨none,.store t x y,ty,pos,af,none⟩) (hx:ev l x=some (.pointer (some ⟨b,off,none⟩))) (hy:ev l y=some u) (W:u.cells.toList=[u]) (h1:u.oneCell'=true)
 (hs:∀w,(sizeOf t).run P w=.ok 1 w) (hb:w.heap[b]?=some (.cells cs.toArray e (0,0))) (G:off<cs.length) :
 ∃w',R1 P ops o a w undef w'/\w'.heap[b]?=some (.cells (cs.set off u).toArray e (0,0))/\w'.os=w.os/\w'.tape=w.tape/\w'.output=w.output/\w'.heap.size=w.heap.size/\∀H,H≠b->w'.heap[H]?=w.heap[H]?:=by
 subst Y
 obtain⟨w',hr,hh,r1,r2,r3,r4,r5⟩:=dw (P:=P) b off e [u] 0 cs w hb (by simp;omega) (λv X=>by simp at X;subst X;exact h1)
 have J:u.cells.size=1:=by
  have:=congrArg List.length W
  simpa using this
 have e1:execOp a.eval ⟨none,.store t x y,ty,pos,af,none⟩=Instr.storeAt t (a.eval x) (a.eval y) >>= λ_=>pure .skip:=rfl
 refine⟨w',.inr ⟨bE O,.inr ⟨?_,O⟩⟩,?_,r1,r2,r3,r4,r5⟩
 · rw[e1,h.ev hx,h.ev hy]
   simp[Instr.storeAt,Instr.sureAddr,storeVar,hs,J,W,hr]
 · rw[hh,Nat.add_zero]
   have:putAt cs off [u]=cs.set off u:=by
    rw[List.set_eq_take_append_cons_drop,if_pos G]
    simp[putAt]
   rw[this]
end
end Go.Stp
end
section
namespace Go.Stp
open Go.RowKit
abbrev eI(k:IntKind):Int->List Value:=λz=>[.int k z]
abbrev eB:Bool->List Value:=λb=>[.bool b]
abbrev eS:List UInt8->List Value:=λs=>[S s]
def qv(l:List Int):List UInt8:=l.map λz=>UInt8.ofNat z.toNat
def zc(l:List UInt8):List Int:=l.map λb=>(b.toNat:Int)
def bS(l:List Int):Bool:=l.all λz=>decide (0<=z/\z<=255)
def fd{α:Type}(l:List α) (a b:Int):List α:=(l.take b.toNat).drop a.toNat
def vq(k:IntKind) (p q:Int):Int:=k.wrap (p*2 ^ (min q.toNat k.bits))
def qQ(k:IntKind) (p q:Int):Int:=p.fdiv (2 ^ (min q.toNat k.bits))
def rn(l:List UInt8) (p:Nat):Int:=((Utf8.decode ⟨l.toArray⟩ p).1:Int)
def iN(l:List UInt8) (p:Nat):Nat:=if p<l.length then p+(Utf8.decode ⟨l.toArray⟩ p).2 else p
def kh(l:List UInt8) (p:Nat):Value:=if p<l.length then .tuple #[.bool true,.int .i64 p,.int .i32 (rn l p)]else .tuple #[.bool false]
section
variable {P:Program}{ops:Array Oper}{Q:Exit->Act->World->Prop}{rest:List Oper}{n:Nm}{dn:Nat}{l:List (Nat × Value)}{a:Act}{w:World}{w0:Bs}{hl:List Own}{Zi Z:FZ}
 {d:Option Nat}{x y:Operand}{t t' ty:TypeId}{pos:String}{af:Array Edge}{g:Option (Nat × Bool)}{V V':Value}{e:TypeId}{k k':IntKind}{p q:Int}
theorem dN(G:ev l x=some (.int k p)) (hy:ev l y=some (.int k q)):cH P l w ⟨d,.binOp .and t x y t',ty,pos,af,g⟩ (.int k (bits .and k p q)):=C5 G hy
theorem xf(G:ev l x=some (.int k p)) (hy:ev l y=some (.int k q)):cH P l w ⟨d,.binOp .or t x y t',ty,pos,af,g⟩ (.int k (bits .or k p q)):=λn a h=>by
 rw[dx,h.ev G,h.ev hy]
 have H:eqGuard .or t x y (.int k p) (.int k q)=pure ():=rfl
 rw[H]
 simp[Go.binOp_or,intBits_or]
theorem yk(G:ev l x=some (.int k p)) (hy:ev l y=some (.int k' q)) (W:0<=q):cH P l w ⟨d,.binOp .shl t x y t',ty,pos,af,g⟩ (.int k (vq k p q)):=λn a h=>by
 rw[dx,h.ev G,h.ev hy]
 have H:eqGuard .shl t x y (.int k p) (.int k' q)=pure ():=rfl
 have e2:binOp .shl t (.int k p) (.int k' q)=Op.shift .shl k p k' q:=by cases k<;>cases k'<;>rfl
 have J:¬q<0:=by omega
 rw[H,e2]
 simp[Op.shift,J,vq]
theorem wr(G:ev l x=some (.int k p)) (hy:ev l y=some (.int k' q)) (W:0<=q):cH P l w ⟨d,.binOp .shr t x y t',ty,pos,af,g⟩ (.int k (qQ k p q)):=λn a h=>by
 rw[dx,h.ev G,h.ev hy]
 have H:eqGuard .shr t x y (.int k p) (.int k' q)=pure ():=rfl
 have e2:binOp .shr t (.int k p) (.int k' q)=Op.shift .shr k p k' q:=by cases k<;>cases k'<;>rfl
 have J:¬q<0:=by omega
 rw[H,e2]
 simp[Op.shift,J,qQ]
theorem pT{G:TypeId}(H:P.underlying G=some (.int k)) (J:ev l x=some (.int k p)) (hy:ev l y=some (.int k q)){ats:Array TypeId}:cH P l w ⟨d,.call { callee:=.builtin .min,args:=#[x,y],argTypes:=ats },ty,pos,af,g⟩ (.int k (min p q)):=λn a h=>by
 have W:execOp a.eval ⟨d,.call { callee:=.builtin .min,args:=#[x,y],argTypes:=ats },ty,pos,af,g⟩=Builtin.min_ ats ty (#[x,y].map a.eval) >>= λv=>pure (.value v):=rfl
 rw[W]
 have e2:(if q<p then q else p)=min p q:=by omega
 simp[h.ev J,h.ev hy,Builtin.min_,Builtin.min2,e2]
theorem pO{G:TypeId}(H:P.underlying G=some (.int k)) (J:ev l x=some (.int k p)) (hy:ev l y=some (.int k q)){ats:Array TypeId}:cH P l w ⟨d,.call { callee:=.builtin .max,args:=#[x,y],argTypes:=ats },ty,pos,af,g⟩ (.int k (max p q)):=λn a h=>by
 have W:execOp a.eval ⟨d,.call { callee:=.builtin .max,args:=#[x,y],argTypes:=ats },ty,pos,af,g⟩=Builtin.max_ ats ty (#[x,y].map a.eval) >>= λv=>pure (.value v):=rfl
 rw[W]
 have e2:(if p<q then q else p)=max p q:=by omega
 simp[h.ev J,h.ev hy,Builtin.max_,Builtin.max2,e2]
theorem kO{f:FuncId}{xs:Array Operand}(us:List Value) (G:nI l xs.toList=some us):cH P l w ⟨d,.makeFunc (.func f) #[] xs,ty,pos,af,g⟩ (.func (.func f) #[] us.toArray):=λn a h=>by
 have H:execOp a.eval ⟨d,.makeFunc (.func f) #[] xs,ty,pos,af,g⟩=Instr.makeFunc (.func f) ((#[]:Array Operand).map a.eval) (xs.map a.eval) >>= λv=>pure (.value v):=rfl
 rw[H,h.wO G]
 simp[Instr.makeFunc]
theorem wV{len:Nat}(G:List Bool) (H:P.underlying t=some (.array len e)) (hs:∀w,(sizeOf e).run P w=.ok 1 w) (J:∀w,(isAgg e).run P w=.ok false w) (W:ev l x=some (.agg (G.map Value.bool).toArray)) (hy:ev l y=some (.int k p))
 (hl:G.length=len) (hp:0<=p/\p<len):cH P l w ⟨d,.index t x y,ty,pos,af,g⟩ (.bool (gel G p)):=
 zq H hs J W hy hp (by rw[List.getElem?_map,ak (by omega)];rfl)
theorem Ag(data:List Int):(qv data).length=data.length:=by simp[qv]
theorem Ac{data:List Int}(h:bS data=true):(qv data).map (λb=>(b.toNat:Int))=data:=by
 unfold qv
 rw[List.map_map]
 conv=>rhs;rw[<-List.map_id data]
 apply List.map_congr_left
 intro z hz
 have G:=List.all_eq_true.1 h z hz
 simp only[decide_eq_true_eq]at G
 have H:z.toNat<256:=by omega
 simp only[Function.comp,UInt8.toNat_ofNat',id]
 have:z.toNat % 2 ^ 8=z.toNat:=Nat.mod_eq_of_lt (by omega)
 rw[this]
 omega
theorem gU(k:IntKind):∀data:List Int,data.flatMap (eI k)=data.map (Value.int k)
 |[]=>rfl
 |z::r=>by rw[List.flatMap_cons,gU k r];rfl
theorem tY{data:List Int}(hs:P.underlying t=some (.slice e)) (J:P.underlying e=some (.int .u8)) (hd:P.underlying t'=some .string) (W:ev l x=some V) (hr:Reads w V 1 (eI .u8) data) (G:bS data=true) :
 cH P l w ⟨d,.convert t t' x,ty,pos,af,g⟩ (S (qv data)):=λn a h=>by
 have X:execOp a.eval ⟨d,.convert t t' x,ty,pos,af,g⟩=convert t t' (a.eval x) >>= λv=>pure (.value v):=rfl
 rcases hr with⟨H,h0⟩|⟨gb,o,cap,cs',e',a1,H,hb,hc⟩
 · subst h0
   rw[X,h.ev W,H]
   have e3:(Conv.bytesToString (.slice none 0 0)).run P w=.ok (.string ⟨#[]⟩) w:=by
    simp[Conv.bytesToString]
    rfl
   simp[run_convert_bytes_string (P:=P) w t t' e none 0 0 hs J hd,e3,qv]
 · rw[X,h.ev W,H]
   have:=run_convert_bytes_back (P:=P) w t t' e ⟨gb,o,none⟩ cap (qv data) hs J hd (λj hj=>by
    rw[Addr.add_lit,gx hb]
    refine hc j _ ?_
    have e5:data.flatMap (eI .u8)=data.map (Value.int .u8):=by
     exact gU .u8 data
    have e6:data[j]?=some ((qv data)[j].toNat:Int):=by
     have Y:=congrArg (·[j]?) (Ac G)
     simp only[List.getElem?_map]at Y
     rw[<-Y,List.getElem?_eq_getElem hj]
     rfl
    rw[e5,List.getElem?_map,e6]
    rfl)
   rw[Ag]at this
   simp[this]
theorem nh{α:Type}{enc:α->List Value}{sz:Nat}(G:∀a,(enc a).length=sz):∀(data:List α) (m:Nat),(data.take m).flatMap enc=(data.flatMap enc).take (m*sz)
 |[],m=>by simp
 |a::r,0=>by simp
 |a::r,m+1=>by
  rw[List.take_succ_cons,List.flatMap_cons,List.flatMap_cons,nh G r m,Nat.add_mul,Nat.one_mul,Nat.add_comm (m*sz) sz,List.take_append,G]
  have:(enc a).take (sz+m*sz)=enc a:=List.take_of_length_le (by rw[G];omega)
  rw[this,show sz+m*sz-sz=m*sz by omega]
theorem nB{α:Type}{enc:α->List Value}{sz:Nat}(G:∀a,(enc a).length=sz):∀(data:List α) (m:Nat),(data.drop m).flatMap enc=(data.flatMap enc).drop (m*sz)
 |[],m=>by simp
 |a::r,0=>by simp
 |a::r,m+1=>by
  rw[List.drop_succ_cons,List.flatMap_cons,nB G r m,Nat.add_mul,Nat.one_mul,Nat.add_comm (m*sz) sz,List.drop_append,G]
  have:(enc a).drop (sz+m*sz)=[]:=List.drop_of_length_le (by rw[G];omega)
  rw[this,show sz+m*sz-sz=m*sz by omega,List.nil_append]
theorem pH{α:Type}{enc:α->List Value}{sz:Nat}{data:List α}{lo hi:Option Operand}(H:∀a,(enc a).length=sz) (h:Fr n l a) (ht:P.underlying t=some (.slice e)) (hs:∀w,(sizeOf e).run P w=.ok sz w) (hx:ev l x=some V) (hr:bx Z V sz enc data)
 (X:match lo with|none=>p=0|some o=>∃k,ev l o=some (.int k p)) (G:match hi with|none=>q=data.length|some o=>∃k,ev l o=some (.int k q)) (hb:0<=p/\p<=q/\q<=(data.length:Int)) :
 ∃V',(execOp a.eval ⟨d,.slice t x lo hi none,ty,pos,af,g⟩).run P w=.ok (.value V') w/\bx Z V' sz enc (fd data p q):=by
 obtain⟨b0,b1,b2⟩:=hb
 have e1:execOp a.eval ⟨d,.slice t x lo hi none,ty,pos,af,g⟩=Instr.sliceAt t (a.eval x) (lo.map a.eval) (hi.map a.eval) none >>= λv=>pure (.value v):=by
  cases lo<;>cases hi<;>rfl
 have Y:∀(ao:Option Addr) (cap:Nat),data.length<=cap->(Instr.sliceAt t (.slice ao data.length cap) (lo.map a.eval) (hi.map a.eval) none).run P w=.ok (.slice (if cap=p.toNat then ao else ao.map (·.add (p.toNat*sz))) (q.toNat-p.toNat) (cap-p.toNat)) w:=by
  intro ao cap hc
  have hq:(0:Int)<=q:=by omega
  have a1:q<=(cap:Int):=by omega
  have ad:p<=((q.toNat:Nat):Int):=by omega
  have b3:p<=(data.length:Int):=by omega
  cases lo with
  |none=>
   simp only at X
   subst X
   cases hi with
   |none=>
    simp only at G
    subst G
    simp[Instr.sliceAt,Instr.slice,run_underlying ht,Instr.sliceBounds,hs]
   |some oh=>
    obtain⟨k2,h2⟩:=G
    simp[Instr.sliceAt,Instr.slice,run_underlying ht,Instr.sliceBounds,Instr.sliceBound,asIntOf,h.ev h2,hq,a1,hs]
  |some ol=>
   obtain⟨k1,h1⟩:=X
   cases hi with
   |none=>
    simp only at G
    subst G
    simp[Instr.sliceAt,Instr.slice,run_underlying ht,Instr.sliceBounds,Instr.sliceBound,asIntOf,h.ev h1,b0,b3,hs]
   |some oh=>
    obtain⟨k2,h2⟩:=G
    simp[Instr.sliceAt,Instr.slice,run_underlying ht,Instr.sliceBounds,Instr.sliceBound,asIntOf,h.ev h1,h.ev h2,hq,a1,b0,ad,hs]
    intro hh
    exfalso
    omega
 have J:(fd data p q).length=q.toNat-p.toNat:=by
  simp only[fd,List.length_drop,List.length_take]
  omega
 rcases hr with⟨hv,h0⟩|⟨gb,o,cap,cs,e',fz,hv,a6,hb,hc⟩
 · subst h0
   have b4:p=0:=by simp at b2;omega
   have b5:q=0:=by simp at b2;omega
   refine⟨.slice none 0 0,?_,.inl ⟨O,by simp[fd]⟩⟩
   rw[e1,h.ev hx,hv]
   have:=Y none 0 (Nat.le_refl _)
   simp only[List.length_nil]at this
   simp only[Sem.run_bind,this,Result.andThen_ok,Sem.run_pure,b4,b5]
   rfl
 · refine⟨_,by rw[e1,h.ev hx,hv];simp only[Sem.run_bind,Y (some ⟨gb,o,none⟩) cap a6,Result.andThen_ok,Sem.run_pure];rfl,?_⟩
   by_cases a7:cap=p.toNat
   · rw[if_pos a7]
     have a8:fd data p q=[]:=List.eq_nil_of_length_eq_zero (by omega)
     refine .inr ⟨gb,o,cap-p.toNat,cs,e',fz,by rw[J],by omega,hb,λj u W=>?_⟩
     rw[a8]at W
     simp at W
   · rw[if_neg a7]
     refine .inr ⟨gb,o+p.toNat*sz,cap-p.toNat,cs,e',fz,by rw[J];simp[Addr.add_lit],by omega,hb,λj u W=>?_⟩
     rw[Nat.add_assoc]
     refine hc _ u ?_
     unfold fd at W
     rw[nB H,nh H,List.getElem?_drop,List.getElem?_take]at W
     split at W
     ·exact W
     ·cases W
theorem jq{α:Type}{enc:α->List Value}{sz:Nat}{data:List α}{J:Operand}{X:IntKind}(G:∀a,(enc a).length=sz) (h:Fr n l a) (ht:P.underlying t=some (.slice e)) (hs:∀w,(sizeOf e).run P w=.ok sz w) (hx:ev l x=some V) (h1:ev l J=some (.int X p)) (hr:bx Z V sz enc data)
 (hb:0<=p/\p<=(data.length:Int)/\(data.length:Int)<=(data.length:Int)) (hd:Nat.blt dn n.n=true) (kk:∀Y V',bx Z V' sz enc (fd data p data.length)->Fr n ((dn,V')::l) Y->wpList P ops Q rest Y w) :
 wpList P ops Q (⟨some dn,.slice t x (some J) none none,ty,pos,af,none⟩::rest) a w:=by
 obtain⟨V',H,W⟩:=pH (P:=P) (d:=some dn) (ty:=ty) (pos:=pos) (af:=af) (g:=none) (w:=w) G h ht hs hx hr (lo:=some J) (hi:=none) ⟨X,h1⟩ rfl hb
 refine wpList_plain O λK hK=>?_
 unfold Oper.wp
 rw[H]
 exact hK _ _ (kk _ V' W (h.put hd V'))
theorem wA{m:List UInt8}(h:Fr n l a) (H:HZ w0 Zi Z hl w) (J:P.underlying t=some .string) (W:ev l x=some (S m)) (hd:Nat.blt dn n.n=true)
 (k:∀G b w',Ext w w'->HZ w0 Zi Z (hl++[.blk b (.stringIter ⟨m.toArray⟩ 0)]) w'->Fr n ((dn,.pointer (some ⟨b,0,none⟩))::l) G->wpList P ops Q rest G w') :
 wpList P ops Q (⟨some dn,.range t x,ty,pos,af,none⟩::rest) a w:=by
 refine wpList_plain O λK X=>?_
 have Y:execOp a.eval ⟨some dn,.range t x,ty,pos,af,none⟩=Instr.range t (a.eval x) >>= λv=>pure (.value v):=rfl
 have e2:(execOp a.eval ⟨some dn,.range t x,ty,pos,af,none⟩).run P w=.ok (.value (.pointer (some ⟨w.heap.size,0,none⟩))) (w.alloc (.stringIter ⟨m.toArray⟩ 0)):=by
  rw[Y,h.ev W]
  have:=run_range_string (P:=P) w t ⟨m.toArray⟩ J
  simp[this,World.iter]
 unfold Oper.wp
 rw[e2]
 refine X _ _ (k _ w.heap.size _ (Ext.alloc _ _) (H.push (Ext.alloc _ _) (.blk _ _) (heap_alloc_new w _) (λb hb=>by simp only[Own.at,Option.some.injEq]at hb;omega)) (h.put hd _))
theorem zD{m:List UInt8}{G b:Nat}(h:Fr n l a) (H:HZ w0 Zi Z hl w) (i:Nat) (hi:hl[i]?=some (.blk b (.stringIter ⟨m.toArray⟩ G))) (hx:ev l x=some (.pointer (some ⟨b,0,none⟩))) (hd:Nat.blt dn n.n=true){hl':List Own}(X:hl.set i (.blk b (.stringIter ⟨m.toArray⟩ (iN m G)))=hl')
 (k:∀a' w',HZ w0 Zi Z hl' w'->Fr n ((dn,kh m G)::l) a'->wpList P ops Q rest a' w') :
 wpList P ops Q (⟨some dn,.next x true,ty,pos,af,none⟩::rest) a w:=by
 refine wpList_plain O λK hK=>?_
 have e1:execOp a.eval ⟨some dn,.next x true,ty,pos,af,none⟩=Instr.next (a.eval x) true ty >>= λv=>pure (.value v):=rfl
 have hb:=H.hp.get i hi
 have a6:b<w.heap.size:=(Array.getElem?_eq_some_iff.1 hb).1
 have Y:(⟨m.toArray⟩:ByteArray).size=m.length:=rfl
 unfold Oper.wp
 rw[e1,h.ev hx]
 by_cases J:G<m.length
 · have:=Lib.run_next_any_at (P:=P) w b ⟨m.toArray⟩ G ty hb (by rw[Y];exact J)
   simp only[Sem.run_bind,this,Result.andThen_ok,Sem.run_pure]
   have hV:kh m G=.tuple #[.bool true,.int .i64 G,.int .i32 (rn m G)]:=by unfold kh;rw[if_pos J]
   have hP:iN m G=G+(Utf8.decode ⟨m.toArray⟩ G).2:=by unfold iN;rw[if_pos J]
   have W:∀c,c≠b->(w.iterAt b ⟨m.toArray⟩ (iN m G)).heap[c]?=w.heap[c]?:=λc hc=>by
    simp[World.iterAt,Array.getElem?_setIfInBounds,Ne.symm hc]
   rw[<-hP]
   refine hK _ _ (k _ _ ?_ (by rw[hV];exact h.put hd _))
   subst X
   have a1:∀c,(Own.blk b (.stringIter ⟨m.toArray⟩ (iN m G))).at=some c->(Own.blk b (.stringIter ⟨m.toArray⟩ G)).at=some c\/w.heap.size<=c:=λc hc=>.inl (by simpa[Own.at]using hc)
   refine H.turn i hi (H.hp.turn i hi (.blk b (.stringIter ⟨m.toArray⟩ (iN m G))) (Lib.iterAt_heap w b _ _ _ hb) O O O (by simp[World.iterAt]) (λc _ hc=>W c (λe=>hc (by rw[e];rfl))) a1) (λc _ hc=>W c (λe=>hc (by rw[e];rfl))) a1
 · have:=Lib.run_next_end_at (P:=P) w b ⟨m.toArray⟩ G ty hb (by rw[Y];exact J)
   simp only[Sem.run_bind,this,Result.andThen_ok,Sem.run_pure]
   have hV:kh m G=.tuple #[.bool false]:=by unfold kh;rw[if_neg J]
   have hP:iN m G=G:=by unfold iN;rw[if_neg J]
   refine hK _ _ (k _ _ ?_ (by rw[hV];exact h.put hd _))
   subst X
   rw[hP]
   have:hl.set i (.blk b (.stringIter ⟨m.toArray⟩ G))=hl:=by
    apply List.ext_getElem?
    intro j
    by_cases hj:i=j
    · subst hj
      rw[List.getElem?_set_self (List.getElem?_eq_some_iff.1 hi).1,hi]
    ·rw[List.getElem?_set_ne hj]
   rw[this]
   exact H
theorem Fa{z:Bool}{p q:Nat}(e:z=decide (p<q)) (h:z=true):p<q:=by rw[e]at h;exact of_decide_eq_true h
theorem wa{m:List UInt8}{H:Nat}(J:ev l x=some (kh m H)):cH P l w ⟨d,.extract x 0,ty,pos,af,g⟩ (.bool (decide (H<m.length))):=by
 by_cases G:H<m.length
 · rw[show kh m H=.tuple #[.bool true,.int .i64 H,.int .i32 (rn m H)]by unfold kh;rw[if_pos G]]at J
   rw[decide_eq_true G]
   exact jb J O
 · rw[show kh m H=.tuple #[.bool false]by unfold kh;rw[if_neg G]]at J
   rw[decide_eq_false G]
   exact jb J O
theorem zU{m:List UInt8}{G:Nat}(H:G<m.length) (J:ev l x=some (kh m G)):cH P l w ⟨d,.extract x 2,ty,pos,af,g⟩ (.int .i32 (rn m G)):=by
 rw[show kh m G=.tuple #[.bool true,.int .i64 G,.int .i32 (rn m G)]by unfold kh;rw[if_pos H]]at J
 exact jb J O
end
end Go.Stp
namespace Go.Stp
open Go.RowKit
section
variable {P:Program}{ops:Array Oper}{Q:Exit->Act->World->Prop}{rest:List Oper}{n:Nm}{dn:Nat}{l:List (Nat × Value)}{a:Act}{w:World}{w0:Bs}{hl:List Own}{Zi Z:FZ}
 {d:Option Nat}{x y:Operand}{t t' ty:TypeId}{pos:String}{af:Array Edge}{g:Option (Nat × Bool)}{V V':Value}{e:TypeId}{k k':IntKind}{p q:Int}
abbrev qB(data:List Int) (tl:List Value) (e:TypeId) (m:Nat):Obj:=.cells (data.map (Value.int .u8)++tl).toArray e (m+tl.length,m+tl.length+1)
theorem xe{m:List UInt8}(h:Fr n l a) (H:HZ w0 Zi Z hl w) (hs:P.underlying t=some .string) (hd:P.underlying t'=some (.slice e)) (he:P.underlying e=some (.int .u8)) (hx:ev l x=some (S m)) (X:Nat.blt dn n.n=true)
 (k:∀a' b cap tl w',Ext w w'->m.length<=cap->HZ w0 Zi Z (hl++[.blk b (qB (zc m) tl e m.length)]) w'->Fr n ((dn,.slice (some ⟨b,0,none⟩) m.length cap)::l) a'->wpList P ops Q rest a' w') :
 wpList P ops Q (⟨some dn,.convert t t' x,ty,pos,af,none⟩::rest) a w:=by
 refine wpList_plain O λK hK=>?_
 have e1:execOp a.eval ⟨some dn,.convert t t' x,ty,pos,af,none⟩=convert t t' (a.eval x) >>= λv=>pure (.value v):=rfl
 have G:(⟨m.toArray⟩:ByteArray).size=m.length:=rfl
 have e2:=run_bytes_of_string (P:=P) w t t' e ⟨m.toArray⟩ hs hd he
 rw[G]at e2
 unfold Oper.wp
 rw[e1,h.ev hx]
 simp only[Sem.run_bind,e2,Result.andThen_ok,Sem.run_pure]
 generalize J:grownCap w m.length 0 e=cap
 have Y:bytesRow ⟨m.toArray⟩ cap=(((zc m).map (Value.int .u8))++List.replicate (cap-m.length) (Value.int .u8 0)).toArray:=by
  apply Array.toList_inj.1
  simp[bytesRow,zc,G]
 have a1:m.length<=cap:=by
  rw[<-J]
  exact grownCap_ge w m.length 0 e
 refine hK _ _ (k _ w.heap.size cap (List.replicate (cap-m.length) (Value.int .u8 0)) _ ((Ext.drew w).trans (Ext.alloc _ _)) a1 ?_ (h.put X _))
 refine H.push ((Ext.drew w).trans (Ext.alloc _ _)) _ ?_ (λb Y=>by simp only[Own.at,Option.some.injEq]at Y;omega)
 unfold Own.holds
 rw[Y]
 have W:(((zc m).map (Value.int .u8))++List.replicate (cap-m.length) (Value.int .u8 0)).toArray.size=m.length+(List.replicate (cap-m.length) (Value.int .u8 0)).length:=by simp[zc]
 rw[W]
 exact heap_alloc_new w.drew _
theorem AU{data:List Int}{G:List Value}(hp:0<=p/\p<(data.length:Int)):(data.map (Value.int .u8)++G)[p.toNat]?=some (.int .u8 (gel data p)):=by
 rw[List.getElem?_append_left (by simp;omega),List.getElem?_map,ak hp]
 rfl
theorem lO{b m cap sz:Nat}{data:List Int}(G:P.underlying t=some (.slice e)) (hs:∀w,(sizeOf e).run P w=.ok 1 w) (H:ev l x=some (.slice (some ⟨b,0,none⟩) m cap)) (hy:ev l y=some (.int k p)) (hl:data.length=m) (hp:0<=p/\p<(data.length:Int)) :
 cH P l w ⟨d,.indexAddr t x y,ty,pos,af,g⟩ (.pointer (some ⟨b,p.toNat,none⟩)):=by
 have:=rB (P:=P) (l:=l) (w:=w) (dd:=d) (ty:=ty) (pos:=pos) (af:=af) (g:=g) G hs H hy (by omega)
 rw[Nat.zero_add,Nat.mul_one]at this
 exact this
theorem AE{b m:Nat}{data:List Int}{G:List Value}(H:ev l x=some (.pointer (some ⟨b,p.toNat,none⟩))) (J:∀w,(isAgg t).run P w=.ok false w) (W:w.heap[b]?=some (qB data G e m)) (hp:0<=p/\p<(data.length:Int)):cH P l w ⟨d,.load t x,ty,pos,af,g⟩ (.int .u8 (gel data p)):=
 aE H J W (AU hp)
theorem Reads.of_B{b m cap:Nat}{data:List Int}{H:List Value}(J:w.heap[b]?=some (qB data H e m)) (hl:data.length=m):Reads w (.slice (some ⟨b,0,none⟩) m cap) 1 (eI .u8) data:=by
 subst hl
 refine .inr ⟨b,0,cap,_,e,_,O,J,λj u G=>?_⟩
 rw[gU]at G
 rw[Nat.zero_add,List.getElem?_append_left (List.getElem?_eq_some_iff.1 G).1]
 exact G
theorem sM{b off:Nat}{cs:List Value}{fz:Nat × Nat}{u:Value}(J:w.heap[b]?=some (.cells cs.toArray e fz)) (W:off<cs.length) (a1:off<fz.1) (h1:u.oneCell'=true) :
 ∃w',(storeCells ⟨b,off,none⟩ [u] 0).run P w=.ok () w'/\w'.heap[b]?=some (.cells (cs.set off u).toArray e fz)/\w'.os=w.os/\w'.tape=w.tape/\w'.output=w.output/\w'.heap.size=w.heap.size/\∀H,H≠b->w'.heap[H]?=w.heap[H]?:=by
 have Y:w.cell? ⟨b,off+0,none⟩=cs[off+0]?:=gx J
 have G:w.frozen? ⟨b,off+0,none⟩=false:=by
  simp only[World.frozen?,J]
  simp
  omega
 refine⟨w.setCell ⟨b,off,none⟩ u,?_,?_,O,O,O,by simp[World.setCell],λH X=>?_⟩
 · rw[Nat.add_zero]at Y G
   simp only[storeCells,Sem.run_bind,Addr.add_lit,Nat.add_zero,run_store P w ⟨b,off,none⟩ u .plain h1,Y,G,List.getElem?_eq_getElem W,Bool.false_eq_true,if_false,Result.andThen_ok]
   simp
 ·simp[World.setCell,Array.getElem?_modify,J]
 · simp only[World.setCell,Array.getElem?_modify]
   rw[if_neg (λe=>X e.symm)]
theorem yn{b m i:Nat}{data:List Int}{G:List Value}{z:Int}(h:Fr n l a) (H:HZ w0 Zi Z hl w) (i:Nat) (hx:ev l x=some (.pointer (some ⟨b,p.toNat,none⟩))) (hy:ev l y=some (.int .u8 z)) (hi:hl[i]?=some (.blk b (qB data G e m))) (hs:∀w,(sizeOf t).run P w=.ok 1 w) (a1:data.length=m) (hp:0<=p/\p<(data.length:Int))
 {hl':List Own}(W:hl.set i (.blk b (qB (data.set p.toNat z) G e m))=hl') (kk:∀w',HZ w0 Zi Z hl' w'->wpList P ops Q rest a w') :
 wpList P ops Q (⟨none,.store t x y,ty,pos,af,none⟩::rest) a w:=by
 refine wpList_plain O λK hK=>?_
 have hb:=H.hp.get i hi
 obtain⟨w',hr,hh,r1,r2,r3,r4,Y⟩:=sM (P:=P) (u:=.int .u8 z) (off:=p.toNat) hb (by simp;omega) (by simp;omega) rfl
 have e1:execOp a.eval ⟨none,.store t x y,ty,pos,af,none⟩=Instr.storeAt t (a.eval x) (a.eval y) >>= λ_=>pure .skip:=rfl
 have e2:(execOp a.eval ⟨none,.store t x y,ty,pos,af,none⟩).run P w=.ok .skip w':=by
  rw[e1,h.ev hx,h.ev hy]
  simp only[Instr.storeAt,Instr.sureAddr,Sem.run_bind,Sem.run_pure,Result.andThen_ok,storeVar,hs,Value.cells]
  simp[hr]
 unfold Oper.wp
 rw[e2]
 subst W
 have X:(data.map (Value.int .u8)++G).set p.toNat (.int .u8 z)=(data.set p.toNat z).map (Value.int .u8)++G:=by
  rw[List.set_append_left _ _ (by simp;omega),List.map_set]
 rw[X]at hh
 have J:∀c,(Own.blk b (qB (data.set p.toNat z) G e m)).at=some c->(Own.blk b (qB data G e m)).at=some c\/w.heap.size<=c:=λc hc=>.inl (by simpa[Own.at]using hc)
 refine hK _ _ (kk w' (H.turn i hi (H.hp.turn i hi (.blk b (qB (data.set p.toNat z) G e m)) hh r1 r2 r3 (by omega) (λc _ hc=>Y c (λe=>hc (by rw[e];rfl))) J) (λc _ hc=>Y c (λe=>hc (by rw[e];rfl))) J))
theorem HZ.setRow{i b cap:Nat}{k:IntKind}{out out':List Int}{cs cs':List Value}{w':World}(H:HZ w0 Zi Z hl w) (hi:hl[i]?=some (.row e 1 (.slice (some ⟨b,0,none⟩) out.length cap) out.length (out.flatMap (eI k)))) (hb:w.heap[b]?=some (.cells cs.toArray e (0,0)))
 (Y:w'.heap[b]?=some (.cells cs'.toArray e (0,0))) (G:out'.length=out.length) (a1:cs'.length=cs.length) (hc2:cs'.take out.length=out'.map (Value.int k)) (r1:w'.os=w.os) (r2:w'.tape=w.tape) (r3:w'.output=w.output) (r4:w'.heap.size=w.heap.size) (r5:∀c,c≠b->w'.heap[c]?=w.heap[c]?) :
 HZ w0 Zi Z (hl.set i (.row e 1 (.slice (some ⟨b,0,none⟩) out.length cap) out'.length (out'.flatMap (eI k)))) w':=by
 have J:∀c,(Own.row e 1 (.slice (some ⟨b,0,none⟩) out.length cap) out'.length (out'.flatMap (eI k))).at=some c->(Own.row e 1 (.slice (some ⟨b,0,none⟩) out.length cap) out.length (out.flatMap (eI k))).at=some c\/w.heap.size<=c:=λc hc=>.inl (by simpa[Own.at]using hc)
 have W:Own.holds (Own.row e 1 (.slice (some ⟨b,0,none⟩) out.length cap) out'.length (out'.flatMap (eI k))) w':=by
  have ho:=H.hp.eT i hi
  refine⟨by rw[gU];simp,?_⟩
  rcases ho.2 with⟨X,_⟩|⟨g,a7,a8,X,hB,hg,ad,a6,hsz,ht⟩
  ·cases X
  · simp only[Value.slice.injEq,Option.some.injEq,Addr.mk.injEq]at X
    obtain⟨⟨rfl,_⟩,_,rfl⟩:=X
    rw[hb]at hg
    simp only[Option.some.injEq,Obj.cells.injEq]at hg
    obtain⟨rfl,_⟩:=hg
    refine .inr ⟨b,cap,cs'.toArray,by rw[G],hB,Y,by omega,a6,by simpa[a1]using hsz,?_⟩
    rw[gU,G,Nat.mul_one]
    simpa using hc2
 exact H.turn i hi (H.hp.turn i hi _ W r1 r2 r3 (by omega) (λc _ hc=>r5 c (λe=>hc (by rw[e];rfl))) J) (λc _ hc=>r5 c (λe=>hc (by rw[e];rfl))) J
theorem HZ.Ap{i:Nat}{k:IntKind}{out:List Int}{sv:Value}(H:HZ w0 Zi Z hl w) (hi:hl[i]?=some (.row e 1 sv out.length (out.flatMap (eI k)))) (X:0<out.length) :
 ∃b cap cs,sv=.slice (some ⟨b,0,none⟩) out.length cap/\w.heap[b]?=some (.cells (List.toArray cs) e (0,0))/\out.length<=cs.length/\cs.take out.length=out.map (Value.int k):=by
 have Y:=H.hp.eT i hi
 rcases Y.2 with⟨_,hn⟩|⟨g,G,J,hv,hB,hg,a1,a6,a7,W⟩
 ·omega
 · refine⟨g,G,J.toList,hv,by simpa using hg,by simp;omega,?_⟩
   rw[gU,Nat.mul_one]at W
   exact W
theorem yx{k:IntKind}{out:List Int}{cs:List Value}(G:cs.take out.length=out.map (Value.int k)) (hp:0<=p/\p<(out.length:Int)):cs[p.toNat]?=some (.int k (gel out p)):=by
 have H:(cs.take out.length)[p.toNat]?=cs[p.toNat]?:=by rw[List.getElem?_take,if_pos (by omega)]
 rw[<-H,G,List.getElem?_map,ak hp]
 rfl
theorem Db{id:Nat}{ol:List Oper}(G:P.follows .mixedOrders=true) (h:lC P ol.toArray (λa w=>Q .normal a w) ol.toArray.size (Array.replicate ol.toArray.size false) a { w with drawn:=w.drawn+1 }):(Code.region id ol.toArray true).wp P Q a w:=
 wp_region_any G (ig _ _ _ _ h)
end
end Go.Stp
end
section
namespace Go.Stp
open Go.RowKit
theorem Do{a b n m M B K:Nat}(l1:a=n) (G:b=m) (h:n+m<=M/\(n+m)*B<=K):a+b<=M/\(a+b)*B<=K:=by
 subst l1 G
 exact h
structure vt (α:Type) where
 sz:Nat
 rel:FZ->α->List Value->Prop
 mono:∀{Z Z':FZ}{x:α}{cs:List Value},Z.subC Z'->rel Z x cs->rel Z' x cs
 len:∀{Z:FZ}{x:α}{cs:List Value},rel Z x cs->cs.length=sz
 one:∀{Z:FZ}{x:α}{cs:List Value},rel Z x cs->allOne cs=true
abbrev Cl(n:Nat):={l:List Value // l.length=n}
section
variable {α:Type}{E:vt α}{Z Z':FZ}{v:Value}{data:List α}
def EL(E:vt α) (Z:FZ):List (Cl E.sz)->List α->Prop
 |[],[]=>True
 |c::cs,x::xs=>E.rel Z x c.1/\EL E Z cs xs
 |_,_=>False
theorem EL.len:∀{css:List (Cl E.sz)}{xs:List α},EL E Z css xs->css.length=xs.length
 |[],[],_=>rfl
 |_::_,_::_,h=>by simp[EL.len h.2]
 |[],_::_,h=>h.elim
 |_::_,[],h=>h.elim
theorem EL.subC(hz:Z.subC Z'):∀{css:List (Cl E.sz)}{xs:List α},EL E Z css xs->EL E Z' css xs
 |[],[],_=>trivial
 |_::_,_::_,h=>⟨E.mono hz h.1,EL.subC hz h.2⟩
 |[],_::_,h=>h.elim
 |_::_,[],h=>h.elim
theorem EL.sub(hz:Z.sub Z'){css:List (Cl E.sz)}{xs:List α}(h:EL E Z css xs):EL E Z' css xs:=h.subC hz.c
theorem EL.get:∀{css:List (Cl E.sz)}{xs:List α}{p:Nat}{x:α},EL E Z css xs->xs[p]?=some x->∃c,css[p]?=some c/\E.rel Z x c.1
 |c::cs,y::H,0,x,h,G=>by
  simp only[List.getElem?_cons_zero,Option.some.injEq]at G
  subst G
  exact⟨c,O,h.1⟩
 |c::cs,y::H,p+1,x,h,G=>by
  simp only[List.getElem?_cons_succ]at G⊢
  exact EL.get h.2 G
 |[],[],p,x,_,G=>by simp at G
 |[],_::_,_,_,h,_=>h.elim
 |_::_,[],_,_,h,_=>h.elim
theorem EL.append:∀{css css':List (Cl E.sz)}{xs G:List α},EL E Z css xs->EL E Z css' G->EL E Z (css++css') (xs++G)
 |[],_,[],_,_,H=>H
 |_::_,_,_::_,_,h,H=>⟨h.1,EL.append h.2 H⟩
 |[],_,_::_,_,h,_=>h.elim
 |_::_,_,[],_,h,_=>h.elim
theorem EL.take:∀{css:List (Cl E.sz)}{xs:List α}(m:Nat),EL E Z css xs->EL E Z (css.take m) (xs.take m)
 |[],[],_,_=>by simp[EL]
 |_::_,_::_,0,_=>trivial
 |_::_,_::_,m+1,h=>⟨h.1,EL.take m h.2⟩
 |[],_::_,_,h=>h.elim
 |_::_,[],_,h=>h.elim
theorem EL.drop:∀{css:List (Cl E.sz)}{xs:List α}(m:Nat),EL E Z css xs->EL E Z (css.drop m) (xs.drop m)
 |[],[],_,_=>by simp[EL]
 |_::_,_::_,0,h=>h
 |_::_,_::_,m+1,h=>EL.drop m h.2
 |[],_::_,_,h=>h.elim
 |_::_,[],_,h=>h.elim
theorem EL.one:∀{css:List (Cl E.sz)}{xs:List α},EL E Z css xs->∀c∈css,allOne c.1=true
 |[],[],_,c,hc=>by cases hc
 |d::ds,_::_,h,c,hc=>by
  rcases List.mem_cons.1 hc with rfl|hc
  ·exact E.one h.1
  ·exact EL.one h.2 c hc
 |[],_::_,h,_,_=>h.elim
 |_::_,[],h,_,_=>h.elim
def bi(Z:FZ) (v:Value) (E:vt α) (data:List α):Prop:=∃css:List (Cl E.sz),bx Z v E.sz Subtype.val css/\EL E Z css data
theorem bi.subC(h:bi Z v E data) (hz:Z.subC Z'):bi Z' v E data:=by
 obtain⟨css,G,H⟩:=h
 exact⟨css,G.subC hz,H.subC hz⟩
theorem bi.sub(h:bi Z v E data) (hz:Z.sub Z'):bi Z' v E data:=h.subC hz.c
theorem bi.hz{w:World}(h:bi Z v E data) (hi:Z.inn w):bi (Stp.hz w) v E data:=h.sub hi.hz
theorem bi.nil:bi Z (.slice none 0 0) E []:=⟨[],bx.nil,trivial⟩
theorem bx.one{β:Type}{sz:Nat}{enc:β->List Value}{l:List β}(h:bx Z v sz enc l):v.oneCell'=true:=by
 rcases h with⟨rfl,_⟩|⟨_,_,_,_,_,_,rfl,_⟩<;>rfl
theorem bi.one(h:bi Z v E data):v.oneCell'=true:=by
 obtain⟨css,G,_⟩:=h
 exact G.one
theorem bx.cells{β:Type}{sz:Nat}{enc:β->List Value}{l:List β}(h:bx Z v sz enc l):v.cells=#[v]:=by
 rcases h with⟨rfl,_⟩|⟨_,_,_,_,_,_,rfl,_⟩<;>rfl
theorem bi.cells(h:bi Z v E data):v.cells=#[v]:=by
 obtain⟨css,G,_⟩:=h
 exact G.cells
theorem bx.form{β:Type}{sz:Nat}{enc:β->List Value}{l:List β}(h:bx Z v sz enc l):∃G n c,v=.slice G n c:=by
 rcases h with⟨rfl,_⟩|⟨_,_,_,_,_,_,rfl,_⟩<;>exact⟨_,_,_,O⟩
theorem bi.form(h:bi Z v E data):∃G n c,v=.slice G n c:=by
 obtain⟨css,H,_⟩:=h
 exact H.form
end
theorem At.cells{α:Type}{w:World}{V:Value}{enc:α->List Value}{G:α}{j:Nat}{cs:List Value}(h:At w V enc G j) (e:enc G=cs):At w V (λ_:Unit=>cs) () j:=by
 obtain⟨g,o,c,t,fz,H,J,W⟩:=h
 exact⟨g,o,c,t,fz,H,J,λi u X=>W i u (by rw[e];exact X)⟩
section
variable {P:Program}{ops:Array Oper}{Q:Exit->Act->World->Prop}{rest:List Oper}{n:Nm}{dn:Nat}{l:List (Nat × Value)}{a:Act}{w w1:World}{w0:Bs}{hl:List Own}{Zi Z:FZ}
 {d:Option Nat}{x y:Operand}{t t' ty:TypeId}{pos:String}{af:Array Edge}{g:Option (Nat × Bool)}{V V':Value}{e:TypeId}{k k':IntKind}{p q:Int}
theorem cd{α:Type}{E:vt α}{data:List α}(G:P.underlying t=some (.slice e)) (H:ev l x=some V) (J:bi Z V E data) (hz:Z.inn w) :
 cH P l w ⟨d,.call { callee:=.builtin .len,args:=#[x],argTypes:=#[t] },ty,pos,af,g⟩ (.int .i64 data.length):=by
 obtain⟨css,W,X⟩:=J
 rw[<-X.len]
 exact bY G H (W.at hz)
theorem bJ{sz:Nat}{css:List (Cl sz)}{c:Cl sz}{cs:List Value}(h:Fr n l a) (J:P.underlying t=some (.slice e)) (hs:∀w,(sizeOf e).run P w=.ok sz w) (W:ev l x=some V) (hy:ev l y=some (.int k p))
 (X:Reads w V sz Subtype.val css) (hp:0<=p) (Y:css[p.toNat]?=some c) (H:c.1=cs) (hd:Nat.blt dn n.n=true)
 (kk:∀G V',At w V' (λ_:Unit=>cs) () 0->Fr n ((dn,V')::l) G->wpList P ops Q rest G w) :
 wpList P ops Q (⟨some dn,.indexAddr t x y,ty,pos,af,none⟩::rest) a w:=
 bB h J hs W hy X (λa=>a.2) c hp Y hd λG V' hA h'=>kk G V' (hA.cells H) h'
theorem dh{sz:Nat}{css:List (Cl sz)}{c:Cl sz}{cs:List Value}{gd:Option (Nat × Bool)}(H:P.underlying t=some (.slice e)) (hs:∀w,(sizeOf e).run P w=.ok sz w) (J:ev l x=some V) (hy:ev l y=some (.int k p))
 (W:Reads w V sz Subtype.val css) (hp:0<=p) (X:css[p.toNat]?=some c) (G:c.1=cs) :
 lj P l w ⟨some dn,.indexAddr t x y,ty,pos,af,gd⟩ false (.rel (λw v=>At w v (λ_:Unit=>cs) () 0)):=by
 obtain⟨V',Y,h2⟩:=rY (P:=P) (l:=l) (dn:=dn) (ty:=ty) (pos:=pos) (af:=af) (gd:=gd) true H hs (λ_=>J) (λ_=>hy) W (λa=>a.2) c (λ_=>hp) (λ_=>X)
 exact(Y O w).jw ((h2 O).cells G)
theorem BU{α:Type}{E:vt α}{data:List α}{V:Value}{lo hi:Option Operand}(h:Fr n l a) (Y:P.underlying t=some (.slice e)) (hs:∀w,(sizeOf e).run P w=.ok E.sz w) (hx:ev l x=some V) (hr:bi Z V E data)
 (H:match lo with|none=>p=0|some o=>∃k,ev l o=some (.int k p)) (J:match hi with|none=>q=data.length|some o=>∃k,ev l o=some (.int k q)) (hb:0<=p/\p<=q/\q<=(data.length:Int)) :
 ∃V',(execOp a.eval ⟨d,.slice t x lo hi none,ty,pos,af,g⟩).run P w=.ok (.value V') w/\bi Z V' E (fd data p q):=by
 obtain⟨css,h1,X⟩:=hr
 have hl:=X.len
 obtain⟨V',G,W⟩:=pH (P:=P) (d:=d) (ty:=ty) (pos:=pos) (af:=af) (g:=g) (w:=w) (λc:Cl E.sz=>c.2) h Y hs hx h1 (lo:=lo) (hi:=hi) H (by rw[hl];exact J) (by rw[hl];exact hb)
 exact⟨V',G,_,W,(X.take q.toNat).drop p.toNat⟩
theorem lY{α:Type}{E:vt α}{data:List α}{H:Operand}{W:IntKind}(h:Fr n l a) (Y:P.underlying t=some (.slice e)) (hs:∀w,(sizeOf e).run P w=.ok E.sz w) (hx:ev l x=some V) (h1:ev l H=some (.int W p)) (hr:bi Z V E data)
 (hb:0<=p/\p<=(data.length:Int)/\(data.length:Int)<=(data.length:Int)) (hd:Nat.blt dn n.n=true) (kk:∀X V',bi Z V' E (fd data p data.length)->Fr n ((dn,V')::l) X->wpList P ops Q rest X w) :
 wpList P ops Q (⟨some dn,.slice t x (some H) none none,ty,pos,af,none⟩::rest) a w:=by
 obtain⟨V',G,J⟩:=BU (P:=P) (d:=some dn) (ty:=ty) (pos:=pos) (af:=af) (g:=none) (w:=w) h Y hs hx hr (lo:=some H) (hi:=none) ⟨W,h1⟩ rfl hb
 refine wpList_plain O λK hK=>?_
 unfold Oper.wp
 rw[G]
 exact hK _ _ (kk _ V' J (h.put hd V'))
theorem xc{α:Type}{E:vt α}{data:List α}{H:Operand}{W:IntKind}(h:Fr n l a) (Y:P.underlying t=some (.slice e)) (hs:∀w,(sizeOf e).run P w=.ok E.sz w) (hx:ev l x=some V) (h2:ev l H=some (.int W q)) (hr:bi Z V E data)
 (hb:(0:Int)<=0/\0<=q/\q<=(data.length:Int)) (hd:Nat.blt dn n.n=true) (kk:∀X V',bi Z V' E (fd data 0 q)->Fr n ((dn,V')::l) X->wpList P ops Q rest X w) :
 wpList P ops Q (⟨some dn,.slice t x none (some H) none,ty,pos,af,none⟩::rest) a w:=by
 obtain⟨V',G,J⟩:=BU (P:=P) (d:=some dn) (ty:=ty) (pos:=pos) (af:=af) (g:=none) (w:=w) h Y hs hx hr (lo:=none) (hi:=some H) rfl ⟨W,h2⟩ hb
 refine wpList_plain O λK hK=>?_
 unfold Oper.wp
 rw[G]
 exact hK _ _ (kk _ V' J (h.put hd V'))
theorem HZ.uT{α:Type}{E:vt α}{data:List α}{css:List (Cl E.sz)}{i:Nat}{sv:Value}(H:HZ w0 Zi Z hl w) (hi:hl[i]?=some (.row e E.sz sv css.length (css.flatMap Subtype.val))) (G:EL E Z css data):bi (hz w) sv E data:=⟨css,H.o1 hi,G.sub H.zin.hz⟩
theorem HZ.xC{α:Type}{E:vt α}{data:List α}{css:List (Cl E.sz)}{i:Nat}{sv:Value}(H:HZ w0 Zi Z hl w) (hi:hl[i]?=some (.row e E.sz sv css.length (css.flatMap Subtype.val))) (G:EL E Z css data):bi (ZL Zi w0 w) sv E data:=⟨css,(H.uC hi).sub ZL.empty,G.sub H.DT⟩
theorem HZ.tM{α:Type}{E:vt α}{data:List α}{css:List (Cl E.sz)}{i:Nat}{sv:Value}{w0:World}(H:HZ w0 Zi Z hl w) (hi:hl[i]?=some (.row e E.sz sv css.length (css.flatMap Subtype.val))) (G:EL E Z css data):bi (ZB Zi w0.heap.size w) sv E data:=(H.xC hi G).sub ZL.none
theorem HZ.q8{α:Type}{enc:α->List Value}{sz:Nat}{out:List α}{sv:Value}(H:HZ w0 Zi Z hl w) (i:Nat) (hi:hl[i]?=some (.row e sz sv out.length (out.flatMap enc))) :
 ∃Z',Z.sub Z'/\HZ w0 Zi Z' (hl.set i (.row e sz (.slice none 0 0) 0 [])) w/\bx Z' sv sz enc out:=by
 have ho:=H.hp.eT i hi
 have X:i<hl.length:=(List.getElem?_eq_some_iff.1 hi).1
 have a6:Hp w0 (hl.set i (.row e sz (.slice none 0 0) 0 [])) w:=by
  refine⟨H.hp.below,λj x G=>?_,λj x G b hb=>?_,λj m x y G hy ao b hb=>?_⟩
  · by_cases J:j=i
    · subst J
      rw[List.getElem?_set_self X]at G
      obtain rfl:=Option.some.inj G
      exact World.ownsRow_nil w _ e sz
    · rw[List.getElem?_set_ne (λe=>J e.symm)]at G
      exact H.hp.own j x G
  · by_cases J:j=i
    · subst J
      rw[List.getElem?_set_self X]at G
      obtain rfl:=Option.some.inj G
      simp[Own.at,Value.ownBlock]at hb
    · rw[List.getElem?_set_ne (λe=>J e.symm)]at G
      exact H.hp.lo j x G b hb
  · by_cases J:j=i
    · subst J
      rw[List.getElem?_set_self X]at G
      obtain rfl:=Option.some.inj G
      simp[Own.at,Value.ownBlock]at hb
    · rw[List.getElem?_set_ne (λe=>J e.symm)]at G
      by_cases hm:m=i
      · subst hm
        rw[List.getElem?_set_self X]at hy
        obtain rfl:=Option.some.inj hy
        simp[Own.at,Value.ownBlock]
      · rw[List.getElem?_set_ne (λe=>hm e.symm)]at hy
        exact H.hp.apart j m x y G hy ao b hb
 have a7:∀x∈hl.set i (.row e sz (.slice none 0 0) 0 []),∀b,x.at=some b->∃j,j≠i/\hl[j]?=some x:=by
  intro x G b hb
  obtain⟨j,J⟩:=List.getElem?_of_mem G
  by_cases Y:j=i
  · subst Y
    rw[List.getElem?_set_self X]at J
    obtain rfl:=Option.some.inj J
    simp[Own.at,Value.ownBlock]at hb
  · rw[List.getElem?_set_ne (λe=>Y e.symm)]at J
    exact⟨j,Y,J⟩
 rcases ho.2 with⟨hv,h0⟩|⟨g,cap,a8,hv,hB,hg,b0,b1,b2,ht⟩
 · refine⟨Z,FZ.sub.refl Z,⟨a6,H.zin,λx G b hb=>?_,H.sub,H.new⟩,.inl ⟨hv,List.eq_nil_of_length_eq_zero h0⟩⟩
   obtain⟨j,_,J⟩:=a7 x G b hb
   exact H.off x (List.mem_of_getElem? J) b hb
 · have a1:(Own.row e sz sv out.length (out.flatMap enc)).at=some g:=by rw[hv];rfl
   have ad:Z g=none:=H.off _ (List.mem_of_getElem? hi) g a1
   refine⟨Z.add g (.cells a8 e (0,0)),FZ.jM ad,⟨a6,λc u W=>?_,λx G c W=>?_,H.sub.trans (FZ.jM ad),λc u W=>?_⟩,.inr ⟨g,0,cap,a8.toList,e,(0,0),hv,b0,by simp[FZ.add],λj u hu=>?_⟩⟩
   · unfold FZ.add at W
     split at W
     ·rename_i e';rw[e',hg];exact W
     ·exact H.zin c u W
   · obtain⟨j,Y,J⟩:=a7 x G c W
     unfold FZ.add
     split
     · rename_i e'
       subst e'
       exact absurd a1 (H.hp.apart j i x _ J hi Y c W)
     ·exact H.off x (List.mem_of_getElem? J) c W
   · unfold FZ.add at W
     split at W
     ·rename_i e';right;subst e';exact H.hp.lo i _ hi c a1
     ·exact H.new c u W
   · rw[<-ht,List.getElem?_take]at hu
     rw[Nat.zero_add]
     split at hu
     ·exact hu
     ·cases hu
theorem HZ.mX{α:Type}{E:vt α}{data:List α}{css:List (Cl E.sz)}{sv:Value}(H:HZ w0 Zi Z hl w) (i:Nat) (hi:hl[i]?=some (.row e E.sz sv css.length (css.flatMap Subtype.val))) (J:EL E Z css data) :
 ∃Z',Z.sub Z'/\HZ w0 Zi Z' (hl.set i (.row e E.sz (.slice none 0 0) 0 [])) w/\bi Z' sv E data:=by
 obtain⟨Z',G,W,X⟩:=H.q8 i hi
 exact⟨Z',G,W,css,X,J.sub G⟩
end
end Go.Stp
end
section
namespace Go.Stp
open Go.RowKit
def lf(n:Nat) (o:Oper):Option Nat:=match o.guard with
 |some _=>none
 |none=>match o.dst with
  |some d=>bif Nat.blt d n then some d else none
  |none=>none
theorem jI{n d:Nat}{o:Oper}(h:lf n o=some d):o.guard=none/\o.dst=some d/\Nat.blt d n=true:=by
 unfold lf at h
 cases H:o.guard with
 |some _=>rw[H]at h;cases h
 |none=>
  rw[H]at h
  cases hd:o.dst with
  |none=>rw[hd]at h;cases h
  |some e=>
   rw[hd]at h
   simp only at h
   cases G:Nat.blt e n with
   |false=>rw[G]at h;cases h
   |true=>
    rw[G]at h
    obtain rfl:=Option.some.inj h
    exact⟨O,O,G⟩
def El(l:List (Nat × Value)):Op->Option Value
 |.move x=>ev l x
 |.assign x=>ev l x
 |.extract x i=>match ev l x with
  |some (.tuple G)=>G.toList[i]?
  |_=>none
 |_=>none
def pv(n:Nat):Nat->List (Nat × Value)->List Oper->Option (List (Nat × Value) × List Oper)
 |0,l,G=>some (l,G)
 |_+1,_,[]=>none
 |k+1,l,o::G=>match lf n o with
  |none=>none
  |some d=>match El l o.op with
   |none=>none
   |some V=>pv n k ((d,V)::l) G
section
variable {P:Program}{ops:Array Oper}{Q:Exit->Act->World->Prop}{rest:List Oper}{o:Oper}{n:Nm}{d:Nat}{l:List (Nat × Value)}{a:Act}{w:World}{w0:Bs}{hl:List Own}{Zi Z:FZ}{V:Value}
theorem sA(h:El l o.op=some V):cH P l w o V:=by
 obtain⟨H,op,ty,pos,af,g⟩:=o
 cases op with
 |move x=>exact an h
 |assign x=>exact yj h
 |extract x i=>
  simp only[El]at h
  split at h
  · rename_i J G
    exact jb G h
  ·cases h
 |_=>cases h
theorem ae:∀(k:Nat){l l':List (Nat × Value)}{H G:List Oper}{a:Act},Fr n l a->pv n.n k l H=some (l',G)->(∀W,Fr n l' W->wpList P ops Q G W w)->wpList P ops Q H a w
 |0,l,l',H,G,a,h,e,J=>by
  simp only[pv,Option.some.injEq,Prod.mk.injEq]at e
  obtain⟨rfl,rfl⟩:=e
  exact J a h
 |k+1,l,l',[],G,a,h,e,J=>by cases e
 |k+1,l,l',o::H,G,a,h,e,J=>by
  simp only[pv]at e
  split at e
  ·cases e
  · rename_i d hd
    split at e
    ·cases e
    · rename_i V X
      obtain⟨Y,h2,h3⟩:=jI hd
      exact st1 h Y h2 h3 (sA X) λW h'=>ae k h' e J
section
variable {ρ:Type}{r:ρ}
theorem s1(h:Fr n l a) (hd:lf n.n o=some d) (H:cH P l w o V) (J:∀G,Fr n ((d,V)::l) G->wpList P ops Q rest G w):wpList P ops Q (o::rest) a w:=by
 obtain⟨W,X,Y⟩:=jI hd
 exact st1 h W X Y H J
theorem sI{Z:Int}{f:Int->Option ρ}{k:IntKind}(h:Fr n l a) (H:aa Z f=some r) (hd:lf n.n o=some d) (J:cH P l w o (.int k Z)) (W:∀z,z=Z->f z=some r->∀G,Fr n ((d,.int k z)::l) G->wpList P ops Q rest G w):wpList P ops Q (o::rest) a w:=
 s1 h hd J (W Z rfl H)
theorem sB{Z:Bool}{f:Bool->Option ρ}(h:Fr n l a) (H:aa Z f=some r) (hd:lf n.n o=some d) (J:cH P l w o (.bool Z)) (W:∀z,z=Z->f z=some r->∀G,Fr n ((d,.bool z)::l) G->wpList P ops Q rest G w):wpList P ops Q (o::rest) a w:=
 s1 h hd J (W Z rfl H)
theorem sS{Z:List UInt8}{f:List UInt8->Option ρ}(h:Fr n l a) (H:aa Z f=some r) (hd:lf n.n o=some d) (J:cH P l w o (S Z)) (W:∀z,z=Z->f z=some r->∀G,Fr n ((d,S z)::l) G->wpList P ops Q rest G w):wpList P ops Q (o::rest) a w:=
 s1 h hd J (W Z rfl H)
theorem sC{α:Type}{A:Option α}{f:α->Option ρ}{V:α->Value}(h:Fr n l a) (H:HZ w0 Zi Z hl w) (J:obind A f=some r) (hd:lf n.n o=some d) (W:∀y,A=some y->dt P l w o (λv w'=>v=V y/\Ext w w'))
 (Y:∀y,f y=some r->∀w',Ext w w'->HZ w0 Zi Z hl w'->∀G,Fr n ((d,V y)::l) G->wpList P ops Q rest G w'):wpList P ops Q (o::rest) a w:=by
 obtain⟨h1,h2,h3⟩:=jI hd
 obtain⟨y,e,J⟩:=bo J
 exact d_ h h1 h2 h3 (W y e) λw' X G h'=>Y y J w' X (H.ext X) G h'
end
theorem cN{ops:Array Oper}{y:Code}{K:Act->World->Prop}(G:∀a w,y.wp P Q a w->K a w) (h:Fr n l a) (is:List Nat) (l':List (Nat × Value)) (k:Fr n l' a->y.wp P Q a w) (e:kn l is=l':=by rfl):wpList P ops (Exit.then K Q) [] a w:=G _ _ (k (h.only is e))
theorem cO(h:Fr n l a) (is:List Nat) (l':List (Nat × Value)){G:Prop}(k:Fr n l' a->G) (e:kn l is=l':=by rfl):G:=k (h.only is e)
theorem cz{ops:Array Oper}{y:Code}{K:Act->World->Prop}(G:∀a w,y.wp P Q a w->K a w) (h:y.wp P Q a w):wpList P ops (Exit.then K Q) [] a w:=G _ _ h
theorem Fr.to{l':List (Nat × Value)}(h:Fr n l a) (e:kn l (l'.map (·.1))=l':=by rfl):Fr n l' a:=h.only _ e
theorem rg{id:Nat}{ol:List Oper}{y:Code}(h:∀K:Act->World->Prop,(∀a w,y.wp P Q a w->K a w)->wpList P ol.toArray (Exit.then K Q) ol a w):(Code.seq (.region id ol.toArray false) y).wp P Q a w:=yP h
theorem bp{α β:Sort _}{p:α->β->Prop}{a:α}{b:β}(h:p a b):∃x y,p x y:=⟨a,b,h⟩
theorem iP{α β γ:Sort _}{p:α->β->γ->Prop}{a:α}{b:β}{c:γ}(h:p a b c):∃x y z,p x y z:=⟨a,b,c,h⟩
theorem Cp{α β γ δ:Sort _}{p:α->β->γ->δ->Prop}{a:α}{b:β}{c:γ}{d:δ}(h:p a b c d):∃x y z u,p x y z u:=⟨a,b,c,d,h⟩
theorem Af{α β γ δ ε:Sort _}{p:α->β->γ->δ->ε->Prop}{a:α}{b:β}{c:γ}{d:δ}{e:ε}(h:p a b c d e):∃x y z u v,p x y z u v:=⟨a,b,c,d,e,h⟩
theorem tH{α:Sort _}{p:α->Unit->Prop}{a:α}(h:p a ()):∃x y,p x y:=⟨a,(),h⟩
theorem fK{I:Nat->Prop}{k:Nat}(h:I k):∃k',k'<k+1/\I k':=⟨k,Nat.lt_succ_self k,h⟩
def xB(id:Nat) (C:Act->World->Prop) (Q:Exit->Act->World->Prop):Exit->Act->World->Prop
 |.normal,a,w=>C a w
 |.exit i,a,w=>match Nat.beq i id with
  |true=>C a w
  |false=>Q (.exit i) a w
 |e,a,w=>Q e a w
def xL(I:Nat->Act->World->Prop) (k:Nat) (Q:Exit->Act->World->Prop):Exit->Act->World->Prop
 |.normal,a,w=>∃k',k'<k/\I k' a w
 |e,a,w=>Q e a w
theorem sq{x y:Code}(h:x.wp P (Exit.then (y.wp P Q) Q) a w):(Code.seq x y).wp P Q a w:=wp_seq h
theorem blk{id:Nat}{x:Code}{C:Act->World->Prop}(H:∀a w,C a w->Q .normal a w) (h:x.wp P (xB id C Q) a w):(Code.block id x).wp P Q a w:=
 wp_block (wp_mono h λe a w G=>by
  cases e with
  |normal=>exact H a w G
  |exit i=>
   simp only[xB,Exit.inBlock]at G⊢
   by_cases hi:i=id
   · subst hi
     simp only[Nat.beq_refl]at G
     rw[if_pos rfl]
     exact H a w G
   · rw[if_neg hi]
     have:Nat.beq i id=false:=by
      cases J:Nat.beq i id with
      |false=>rfl
      |true=>exact absurd (Nat.eq_of_beq_eq_true J) hi
     rw[this]at G
     exact G
  |_=>exact G)
theorem lb{id:Nat}{x:Code}(h:x.wp P (xB id (Q .normal) Q) a w):(Code.block id x).wp P Q a w:=blk (λ_ _ h=>h) h
theorem sb{id:Nat}{x y:Code}(h:x.wp P (xB id (y.wp P Q) Q) a w):(Code.seq (.block id x) y).wp P Q a w:=
 wp_seq (blk (C:=y.wp P Q) (λ_ _ h=>h) (wp_mono h λe a w G=>by
  cases e with
  |exit i=>
   simp only[xB]at G⊢
   split at G<;>exact G
  |_=>exact G))
theorem dA{x y:Code}(C:Act->World->Prop) (hy:∀a w,C a w->y.wp P Q a w) (H:x.wp P (Exit.then C Q) a w):(Code.seq x y).wp P Q a w:=
 wp_seq (wp_mono H λe a w G=>by cases e<;>first|exact G|exact hy a w G)
theorem Bg{id:Nat}{x y:Code}(C:Act->World->Prop) (hy:∀a w,C a w->y.wp P Q a w) (H:x.wp P (xB id C Q) a w):(Code.seq (.block id x) y).wp P Q a w:=
 wp_seq (blk (C:=C) hy (wp_mono H λe a w G=>by
  cases e with
  |exit i=>
   simp only[xB]at G⊢
   split at G<;>exact G
  |_=>exact G))
theorem ib{c:Code}(I:Nat->Act->World->Prop) (G:Nat) (J:I G a w) (round:∀k a w,I k a w->c.wp P (xL I k Q) a w):(Code.loop c).wp P Q a w:=
 Bk I G J λk a w W Q' X Y=>wp_mono (round k a w W) λe a w H=>by
  cases e with
  |normal=>obtain⟨k',h3,h4⟩:=H;exact X k' a w h3 h4
  |_=>exact Y _ a w (by simp) (by simp) H
theorem cI{c:Operand}{x y:Code}{b:Bool}{ρ:Type}{A B:Option ρ}{r:ρ}(h:Fr n l a) (G:(if b=true then A else B)=some r) (H:ev l c=some (.bool b)) (J:b=true->A=some r->x.wp P Q a w) (W:b=false->B=some r->y.wp P Q a w):(Code.cond c x y).wp P Q a w:=
 mF h H (λe=>J e (uL e G)) (λe=>W e (E5 e G))
section
variable {R:Value->World->Prop}{fn:Func}{ra rb rc:ResultVar}{va vb vc:Value}
theorem r1(G:∀a w,Out P fn R a w->Q .ret a w) (h:Fr n l a) (J:fn.results=#[ra]) (W:RV P l w ra va) (X:R va w) (H:n.ds=[]:=by rfl):Code.ret.wp P Q a w:=qe (G _ _ (Dd h J W X H))
theorem r2(G:∀a w,Out P fn R a w->Q .ret a w) (h:Fr n l a) (J:fn.results=#[ra,rb]) (W:RV P l w ra va) (X:RV P l w rb vb) (Y:R (.tuple #[va,vb]) w) (H:n.ds=[]:=by rfl):Code.ret.wp P Q a w:=qe (G _ _ (EA h J W X Y H))
theorem r3(G:∀a w,Out P fn R a w->Q .ret a w) (h:Fr n l a) (J:fn.results=#[ra,rb,rc]) (W:RV P l w ra va) (X:RV P l w rb vb) (Y:RV P l w rc vc) (hR:R (.tuple #[va,vb,vc]) w) (H:n.ds=[]:=by rfl):Code.ret.wp P Q a w:=qe (G _ _ (DL h J W X Y hR H))
end
section
variable {d dn p b off k j:Nat}{t e ty:TypeId}{pos:String}{af:Array Edge}{x y:Operand}{cs:List Value}{hl':List Own}{g:Option (Nat × Bool)}
theorem aO(H:HZ w0 Zi Z hl w) (i:Nat) (W:∀w,(isAgg t).run P w=.ok true w) (hs:∀w,(sizeOf t).run P w=.ok k w) (G:List Value) (J:look l p=some (.pointer (some ⟨b,off,none⟩)):=by rfl) (hi:hl[i]?=some (.blk b (aB cs e)):=by rfl) (X:(cs.drop off).take k=G:=by rfl) (Y:G.length=k:=by rfl):RV P l w (.cell p t) (.agg G.toArray):=
 ⟨_,J,kS W hs (H.hp.get i hi) X Y⟩
theorem Em(H:HZ w0 Zi Z hl w) (i:Nat) (J:∀w,(isAgg t).run P w=.ok false w) (G:look l p=some (.pointer (some ⟨b,off,none⟩)):=by rfl) (hi:hl[i]?=some (.blk b (aB cs e)):=by rfl) (W:cs[off]?=some V:=by rfl):RV P l w (.cell p t) V:=
 ⟨_,G,oQ J (H.hp.get i hi) W⟩
theorem zA(h:Fr n l a) (H:HZ w0 Zi Z hl w){z:Value}(hz:∀w,(zeroValue e).run P w=.ok z w) (J:List Value) (hl':Own->List Own)
 (Y:∀G b w',Ext w w'->HZ w0 Zi Z (hl' (.blk b (aB J e))) w'->Fr n ((dn,.pointer (some ⟨b,0,none⟩))::l) G->wpList P ops Q rest G w') (hd:Nat.blt dn n.n=true:=by rfl) (W:z.cells.toList=J:=by rfl) (he:∀x,hl++[x]=hl' x:=by intro _;rfl) :
 wpList P ops Q (⟨some dn,.alloc e,ty,pos,af,none⟩::rest) a w:=AM h H hz J W hd λG b w' X H' h'=>Y G b w' X (by rw[<-he];exact H') h'
theorem zS(h:Fr n l a) (H:HZ w0 Zi Z hl w) (i:Nat) (hs:∀w,(sizeOf t).run P w=.ok k w) (G cs':List Value) (hl':List Own) (Y:∀w',HZ w0 Zi Z hl' w'->wpList P ops Q rest a w')
 (hx:ev l x=some (.pointer (some ⟨b,off,none⟩)):=by rfl) (hy:ev l y=some V:=by rfl) (hi:hl[i]?=some (.blk b (aB cs e)):=by rfl) (J:V.cells.toList=G:=by rfl) (hk:G.length=k:=by rfl) (h1:allOne G=true:=by rfl) (hle:Nat.ble (off+k) cs.length=true:=by rfl) (W:putAt cs off G=cs':=by rfl) (X:hl.set i (.blk b (aB cs' e))=hl':=by rfl) :
 wpList P ops Q (⟨none,.store t x y,ty,pos,af,none⟩::rest) a w:=ap h H i hx hy hi hs G J hk h1 (by simpa[Nat.ble_eq]using hle) cs' W X Y
theorem l1(H:HZ w0 Zi Z hl w) (i:Nat){G:Option Nat}(J:∀w,(isAgg t).run P w=.ok false w) (W:ev l x=some (.pointer (some ⟨b,off,none⟩)):=by rfl) (hi:hl[i]?=some (.blk b (aB cs e)):=by rfl) (X:cs[off]?=some V:=by rfl):cH P l w ⟨G,.load t x,ty,pos,af,g⟩ V:=aE W J (H.hp.get i hi) X
theorem lA(H:HZ w0 Zi Z hl w) (i:Nat){J:Option Nat}(W:∀w,(isAgg t).run P w=.ok true w) (hs:∀w,(sizeOf t).run P w=.ok k w) (G:List Value) (X:ev l x=some (.pointer (some ⟨b,off,none⟩)):=by rfl) (hi:hl[i]?=some (.blk b (aB cs e)):=by rfl) (Y:(cs.drop off).take k=G:=by rfl) (hk:G.length=k:=by rfl):cH P l w ⟨J,.load t x,ty,pos,af,g⟩ (.agg G.toArray):=dL G X W hs (H.hp.get i hi) Y hk
theorem dC{f:FuncId}{xs:Array Operand}{ats:Array TypeId}{G:List Value}{R:Value->World->Prop}{H:Option Nat}(J:∀as w,(callFunc f as).run P w=.ok (.enter f as) w)
 (W:Calls P f G.toArray w (bj R)) (X:nI l xs.toList=some G:=by rfl):dt P l w ⟨H,.call { callee:=.value (.func f),args:=xs,argTypes:=ats },ty,pos,af,g⟩ R:=fM G X J W
end
theorem en{G:Nat}{f:FuncId}{fn:Func}{c:Code}{H:List Value}{R:Value->World->Prop}(X:P.funcs[f]?=some fn) (is:List Nat) (l':List (Nat × Value))
 (h:∀Q a Zi Z,(hz w).sub Z->HZ w Zi Z [] w->Fr G l' a->(∀a w,Out P fn R a w->Q .ret a w)->c.wp P Q a w) (Y:fn.body=some c:=by rfl) (hn:fn.ntmps=G:=by rfl) (J:Nat.ble H.length G=true:=by rfl) (e:kn (lK 0 H) is=l':=by rfl):Calls P f H.toArray w (bj R):=
 enter X Y hn J λQ a W hr _=>h Q a _ _ (FZ.sub.refl _) (HZ.start w) (W.only is e) hr
theorem o6{G:Nat}{f:FuncId}{fn:Func}{c:Code}{H:List Value}{R:Value->World->Prop}(Y:Z.inn w) (hf:P.funcs[f]?=some fn) (is:List Nat) (X:List (Nat × Value))
 (h:∀Q a Zi,Zi=Z->HZ w Zi Z [] w->Fr G X a->(∀a w,Out P fn R a w->Q .ret a w)->c.wp P Q a w) (hb:fn.body=some c:=by rfl) (hn:fn.ntmps=G:=by rfl) (J:Nat.ble H.length G=true:=by rfl) (e:kn (lK 0 H) is=X:=by rfl):Calls P f H.toArray w (bj R):=
 enter hf hb hn J λQ a W hr _=>h Q a _ rfl (HZ.uO Y) (W.only is e) hr
end
section
variable {P:Program}{ops:Array Oper}{w1:World}{n:Nm}{d:Nat}{F:List (Nat × RL)->List Nat->Prop}{L:List (Nat × RL)}{A:List Nat}{rest:List Oper}{o:Oper}{V:Value}{ρ:Type}{r:ρ}
theorem rJ(S:List Nat):rV S S=true:=List.all_eq_true.2 λs hs=>List.any_eq_true.2 ⟨s,hs,Nat.beq_refl s⟩
theorem F1(hd:lf n.n o=some d) (G:∀w,Ext w1 w->cH P (eW L (o.looksAt ops)) w o V) (k:bm P ops w1 n F ((d,.eq V)::L) A rest):bm P ops w1 n F L A (o::rest):=by
 obtain⟨H,J,W⟩:=jI hd
 exact f1 _ (rJ _) H J W G k
def mJ(ops:Array Oper) (n:Nat):Nat->List (Nat × RL)->List Oper->Option (List (Nat × RL) × List Oper)
 |0,L,G=>some (L,G)
 |_+1,_,[]=>none
 |k+1,L,o::G=>match lf n o with
  |none=>none
  |some d=>match El (eW L (o.looksAt ops)) o.op with
   |none=>none
   |some V=>mJ ops n k ((d,.eq V)::L) G
theorem bN:∀(k:Nat){L H:List (Nat × RL)}{J G:List Oper},mJ ops n.n k L J=some (H,G)->bm P ops w1 n F H A G->bm P ops w1 n F L A J
 |0,L,H,J,G,e,W=>by
  simp only[mJ,Option.some.injEq,Prod.mk.injEq]at e
  obtain⟨rfl,rfl⟩:=e
  exact W
 |k+1,L,H,[],G,e,W=>by cases e
 |k+1,L,H,o::J,G,e,W=>by
  simp only[mJ]at e
  split at e
  ·cases e
  · rename_i d hd
    split at e
    ·cases e
    · rename_i V X
      exact F1 hd (λw _=>sA X) (bN k e W)
theorem fI{Z:Int}{f:Int->Option ρ}{k:IntKind}(G:aa Z f=some r) (hd:lf n.n o=some d) (H:∀w,Ext w1 w->cH P (eW L (o.looksAt ops)) w o (.int k Z)) (J:∀z,z=Z->f z=some r->bm P ops w1 n F ((d,.eq (.int k z))::L) A rest):bm P ops w1 n F L A (o::rest):=F1 hd H (J Z rfl G)
theorem fB{Z:Bool}{f:Bool->Option ρ}(G:aa Z f=some r) (hd:lf n.n o=some d) (H:∀w,Ext w1 w->cH P (eW L (o.looksAt ops)) w o (.bool Z)) (J:∀z,z=Z->f z=some r->bm P ops w1 n F ((d,.eq (.bool z))::L) A rest):bm P ops w1 n F L A (o::rest):=F1 hd H (J Z rfl G)
theorem fS{Z:List UInt8}{f:List UInt8->Option ρ}(G:aa Z f=some r) (hd:lf n.n o=some d) (H:∀w,Ext w1 w->cH P (eW L (o.looksAt ops)) w o (S Z)) (J:∀z,z=Z->f z=some r->bm P ops w1 n F ((d,.eq (S z))::L) A rest):bm P ops w1 n F L A (o::rest):=F1 hd H (J Z rfl G)
theorem fC{α:Type}{B:Option α}{f:α->Option ρ}{V:α->Value}(G:obind B f=some r) (hd:lf n.n o=some d) (H:∀y,B=some y->∀w,Ext w1 w->dt P (eW L (o.looksAt ops)) w o (λv w'=>v=V y/\Ext w w'))
 (J:∀y,f y=some r->bm P ops w1 n F ((d,.eq (V y))::L) A rest):bm P ops w1 n F L A (o::rest):=by
 obtain⟨W,X,Y⟩:=jI hd
 obtain⟨y,e,G⟩:=bo G
 exact f2 _ (rJ _) W X Y (H y e) (J y G)
theorem fE{w0:Bs}{Zi Z:FZ}{hl:List Own}{G:Act->World->Prop}(S:List Nat) (Y:List (Nat × Value)) (H:HZ w0 Zi Z hl w1) (kk:∀a w,Ext w1 w->HZ w0 Zi Z hl w->Fr n Y a->G a w) (e:eW L S=Y:=by rfl) :
 bm P ops w1 n (λL A=>∀J w',Ext w1 w'->sK n L J w'->io w1 L A J w'->G J w') L A []:=λa w X W _=>
 kk a w X (H.ext X) (by subst e;exact gC W.size W.defers S λs _ r hr=>W.has s r hr)
end
section
variable {P:Program}{Q:Exit->Act->World->Prop}{n:Nm}{l:List (Nat × Value)}{a:Act}{w:World}
theorem fl{id:Nat}{ol:List Oper}{y:Code}(h:Fr n l a) (H:bm P ol.toArray w n (λL A=>∀G w',Ext w w'->sK n L G w'->io w L A G w'->y.wp P Q G w') (eqs l) [] ol) (J:P.follows .mixedOrders=true:=by kernel_rfl) (W:oz ol.toArray ol.length=true:=by kernel_rfl):(Code.seq (.region id ol.toArray true) y).wp P Q a w:=CM h J W H
theorem nV{id:Nat}{ol:List Oper}{y:Code}(m:Nat) (h:Fr n l a) (H:∀K:Act->World->Prop,(∀a w,y.wp P Q a w->K a w)->bm P ol.toArray w n (λL A=>∀G w',Ext w w'->sK n L G w'->io w L A G w'->wpList P ol.toArray (Exit.then K Q) (ol.drop m) G w') (eqs l) [] (ol.take m))
 (J:P.follows .mixedOrders=true:=by kernel_rfl) (W:ou ol.toArray m=true:=by kernel_rfl):(Code.seq (.region id ol.toArray true) y).wp P Q a w:=Bx m h J W H
end
end Go.Stp
end
section
namespace Go.ValP
open Go.Stp
structure V where
 k:Int
 n:Int
 s:List UInt8
deriving Inhabited,DecidableEq
abbrev vL(v:V):List Value:=[.int .i64 v.k,.int .i64 v.n,S v.s]
def EB(c k n:Int) (G:Bool) (out:List UInt8):Prop:=
 (G=true/\out=[]/\((k=0/\n=c*1000000)\/(k=1/\n=c*100000)\/(k=2/\n=c*10000)\/(k=3/\n=c*1000)\/(k=4/\n=c*100)\/(k=5/\n=c*10)\/(k=6/\n=c)))\/
 (G=false/\out=[UInt8.ofNat (48+c).toNat]/\k=7/\n=0)
theorem EB.skip{c k n:Int}{G:Bool}{out:List UInt8}(X:0<=c/\c<=1) (h:EB c k n G out) (W:¬k=6) (Y:k<7\/0<n):G=true/\n.tmod 10=0/\EB c (k+1) (n.tdiv 10) G out:=by
 rcases h with⟨H,J,h⟩|⟨_,_,H,J⟩
 · obtain rfl|rfl:c=0\/c=1:=by omega
   all_goals rcases h with⟨rfl,rfl⟩|⟨rfl,rfl⟩|⟨rfl,rfl⟩|⟨rfl,rfl⟩|⟨rfl,rfl⟩|⟨rfl,rfl⟩|⟨rfl,rfl⟩
   all_goals first|exact absurd O W|exact⟨H,by decide,.inl ⟨H,J,by decide⟩⟩
 ·omega
structure Arg where
 area:Bool
 cols:Int
 l:List V
deriving Inhabited
def cY:vt Arg where
 sz:=3
 rel Z x cs:=∃sv,cs=[.bool x.area,.int .i64 x.cols,sv]/\bx Z sv 3 vL x.l
 mono hz:=λ⟨sv,G,H⟩=>⟨sv,G,H.subC hz⟩
 len:=λ⟨sv,G,_⟩=>by rw[G];rfl
 one:=λ⟨sv,G,H⟩=>by rw[G];simp only[allOne,H.one];rfl
theorem bl{Z:FZ}:cY.rel Z default [.bool false,.int .i64 0,.slice none 0 0]:=⟨_,rfl,bx.nil⟩
end Go.ValP
end
section
namespace Go.Stp
open Go.RowKit
section
variable {w0:Bs}{w w':World}{Zi Z:FZ}{hl:List Own}
theorem HZ.uY{B:Bs}(W:Z.inn B.w) (X:∀(i:Nat) (o:Own),hl[i]?=some o->o.holds B.w) (H:∀(i:Nat) (o:Own),hl[i]?=some o->∀b,o.at=some b->b∈B.L)
 (J:∀(i j:Nat) (o o':Own),hl[i]?=some o->hl[j]?=some o'->i≠j->∀b,o.at=some b->o'.at≠some b) (G:∀o∈hl,∀b,o.at=some b->Z b=none):HZ B Z Z hl B.w:=
 ⟨⟨ExtB.refl _,X,λi o e b Y=>.inr (H i o e b Y),J⟩,W,G,FZ.sub.refl _,λ_ _ h=>.inl h⟩
theorem HZ.Aj{o:Own}(W:Z.inn w) (X:o.holds w) (H:∀b,o.at=some b->Z b=none):HZ ⟨w,o.at.toList⟩ Z Z [o] w:=by
 have G:∀(i:Nat) (x:Own),[o][i]?=some x->i=0/\x=o:=by
  intro i x e
  match i,e with
  |0,e=>exact⟨O,(Option.some.inj e).symm⟩
  |i+1,e=>simp at e
 refine HZ.uY (B:=⟨w,o.at.toList⟩) W (λi x e=>?_) (λi x e b J=>?_) (λi j x y hx hy Y=>?_) (λx hx b J=>?_)
 · obtain⟨_,rfl⟩:=G i x e
   exact X
 · obtain⟨_,rfl⟩:=G i x e
   rw[J]
   simp
 · have:=(G i x hx).1
   have:=(G j y hy).1
   omega
 · obtain rfl:x=o:=by simpa using hx
   exact H b J
theorem HZ.A0{b:Nat}{o:Obj}(J:Z.inn w) (W:w.heap[b]?=some o) (G:Z b=none):HZ ⟨w,[b]⟩ Z Z [.blk b o] w:=
 HZ.Aj (o:=.blk b o) J W (λc H=>by simp only[Own.at,Option.some.injEq]at H;rw[<-H];exact G)
theorem HZ.EE(H:HZ w0 Zi Z hl w) (i:Nat){o o':Own}(hi:hl[i]?=some o) (ho:o'.holds w') (Y:o'.at=o.at) (X:ExtB ⟨w,o.at.toList⟩ w') :
 ∃Z',Z.sub Z'/\(ZB Z w.heap.size w').sub Z'/\HZ w0 Zi Z' (hl.set i o') w':=by
 have hs:∀b,b<w.heap.size->o.at≠some b->w'.heap[b]?=w.heap[b]?:=λb G a1=>X.block b G λhm=>a1 (by
  cases ha:o.at with
  |none=>rw[ha]at hm;simp at hm
  |some c=>rw[ha]at hm;simp at hm;rw[hm])
 have J:∀b,o'.at=some b->o.at=some b\/w.heap.size<=b:=λb G=>.inl (by rw[<-Y];exact G)
 have W:=H.turn i hi (H.hp.turn i hi o' ho X.os X.tape X.output X.size hs J) hs J
 refine⟨_,FZ.sub.trans (λb u G=>?_) (FZ.sub.refl (ZB Z w.heap.size w')),FZ.sub.refl _,⟨W.hp,ZB.inn W.zin,λx hx b G=>?_,W.sub.trans λb u G=>?_,λb u G=>?_⟩⟩
 · unfold ZB
   split
   ·exact W.zin b u G
   ·exact G
 · unfold ZB
   rw[if_neg]
   ·exact W.off x hx b G
   · intro a6
     rcases List.mem_or_eq_of_mem_set hx with hx|rfl
     · have:=H.lt x hx b G
       omega
     · rw[Y]at G
       have:=H.lt o (List.mem_of_getElem? hi) b G
       omega
 · unfold ZB
   split
   ·exact W.zin b u G
   ·exact G
 · unfold ZB at G
   split at G
   · right;left
     have:=H.sz
     omega
   ·exact W.new b u G
theorem HZ.b_(H:HZ w0 Zi Z hl w) (i:Nat){b:Nat}{o o':Obj}(hi:hl[i]?=some (.blk b o)) (G:w'.heap[b]?=some o') (X:ExtB ⟨w,[b]⟩ w'){hl':List Own}(hh:hl.set i (.blk b o')=hl') :
 ∃Z',Z.sub Z'/\(ZB Z w.heap.size w').sub Z'/\HZ w0 Zi Z' hl' w':=by
 subst hh
 exact H.EE i hi (o':=.blk b o') G O X
end
section
variable {P:Program}{n:Nat}
theorem tf{f:FuncId}{fn:Func}{c:Code}{G:List Value}{R:Value->World->Prop}{w:World}(Y:P.funcs[f]?=some fn) (is:List Nat) (X:List (Nat × Value))
 (h:∀Q a,Fr n X a->(∀a w,Out P fn R a w->Q .ret a w)->(∀a w,Out P fn R a w->Q .normal a w)->c.wp P Q a w) (hb:fn.body=some c:=by rfl) (H:fn.ntmps=n:=by rfl) (J:Nat.ble G.length n=true:=by rfl) (e:kn (lK 0 G) is=X:=by rfl):Calls P f G.toArray w (bj R):=
 enter Y hb H J λQ a W hr H=>h Q a (W.only is e) hr H
end
section
variable {α:Type}{E:vt α}{Z:FZ}
theorem EL.set{x:α}{c:Cl E.sz}(G:E.rel Z x c.1):∀{css:List (Cl E.sz)}{xs:List α}(p:Nat),EL E Z css xs->EL E Z (css.set p c) (xs.set p x)
 |[],[],p,_=>by simp[EL]
 |_::_,_::_,0,h=>⟨G,h.2⟩
 |_::_,_::_,p+1,h=>⟨h.1,EL.set G p h.2⟩
 |[],_::_,_,h=>h.elim
 |_::_,[],_,h=>h.elim
theorem EL.gel [Inhabited α]{css:List (Cl E.sz)}{xs:List α}(h:EL E Z css xs) (hd:∃cs,E.rel Z default cs) (p:Int):∃c:Cl E.sz,(0<=p/\p<(xs.length:Int)->css[p.toNat]?=some c)/\E.rel Z (Stp.gel xs p) c.1:=by
 by_cases hp:p.toNat<xs.length
 · obtain⟨c,H,J⟩:=EL.get h (getD_some xs p.toNat default hp)
   exact⟨c,λ_=>H,J⟩
 · obtain⟨cs,G⟩:=hd
   refine⟨⟨cs,E.len G⟩,λhh=>by omega,?_⟩
   have:Stp.gel xs p=default:=by
    unfold Stp.gel
    rw[List.getD_eq_getElem?_getD,List.getElem?_eq_none (by omega)]
    rfl
   rw[this]
   exact G
theorem bi.gel [Inhabited α]{v:Value}{xs:List α}(h:bi Z v E xs) (hd:∃cs,E.rel Z default cs) (p:Int):∃(css:List (Cl E.sz)) (c:Cl E.sz),bx Z v E.sz Subtype.val css/\(0<=p/\p<(xs.length:Int)->css[p.toNat]?=some c)/\E.rel Z (Stp.gel xs p) c.1:=by
 obtain⟨css,G,H⟩:=h
 obtain⟨c,J,W⟩:=H.gel hd p
 exact⟨css,c,G,J,W⟩
end
theorem qk{d r G:List Value}{j:Nat}(h:j+G.length<=d.length):putAt (d++r) j G=putAt d j G++r:=by
 unfold putAt
 rw[List.take_append_of_le_length (by omega),List.drop_append_of_le_length h]
 simp
theorem oE{d r G:List Value}{j:Nat}:putAt (d++r) (d.length+j) G=d++putAt r j G:=by
 unfold putAt
 have H:d.length+j+G.length=d.length+(j+G.length):=by omega
 rw[H,List.take_length_add_append,List.drop_length_add_append]
 simp
theorem uS{cs G:List Value}{j m:Nat}(h:j+G.length<=m) (J:m<=cs.length):(putAt cs j G).take m=putAt (cs.take m) j G:=by
 have e:cs=cs.take m++cs.drop m:=(List.take_append_drop m cs).symm
 have hl:(cs.take m).length=m:=by simp;omega
 conv=>lhs;rw[e]
 rw[qk (by omega)]
 have H:(putAt (cs.take m) j G).length=m:=by
  unfold putAt
  simp
  omega
 rw[List.take_append_of_le_length (by omega),List.take_of_length_le (by omega)]
theorem wP{cs G:List Value}{j:Nat}(h:j+G.length<=cs.length):(putAt cs j G).length=cs.length:=by
 unfold putAt
 simp
 omega
theorem p_{sz j:Nat}{H:List Value}:∀{css:List (Cl sz)}{p:Nat}{c G:Cl sz},css[p]?=some c->j+H.length<=sz->G.1=putAt c.1 j H->putAt (css.flatMap Subtype.val) (p*sz+j) H=(css.set p G).flatMap Subtype.val
 |d::r,0,c,G,hp,J,W=>by
  simp only[List.getElem?_cons_zero,Option.some.injEq]at hp
  subst hp
  simp only[List.flatMap_cons,List.set_cons_zero,Nat.zero_mul,Nat.zero_add]
  rw[qk (by rw[d.2];exact J),W]
 |d::r,p+1,c,G,hp,J,W=>by
  simp only[List.getElem?_cons_succ]at hp
  simp only[List.flatMap_cons,List.set_cons_succ]
  have e:(p+1)*sz+j=d.1.length+(p*sz+j):=by rw[d.2,Nat.add_mul];omega
  rw[e,oE,p_ hp J W]
 |[],p,c,G,hp,_,_=>by simp at hp
theorem sJ{sz:Nat}(css:List (Cl sz)):(css.flatMap Subtype.val).length=css.length*sz:=fe _ sz (λc=>c.2) css
section
variable {P:Program}{ops:Array Oper}{Q:Exit->Act->World->Prop}{rest:List Oper}{n:Nm}{dn:Nat}{l:List (Nat × Value)}{a:Act}{w:World}{w0:Bs}{hl:List Own}{Zi Z:FZ}
 {d:Option Nat}{x y:Operand}{t t' t2 ty:TypeId}{pos:String}{af:Array Edge}{g:Option (Nat × Bool)}{V V':Value}{e e2:TypeId}{k k':IntKind}{p q:Int}
theorem HZ.zf{i m sz:Nat}{sv:Value}{xs:List Value}(H:HZ w0 Zi Z hl w) (hi:hl[i]?=some (.row e sz sv m xs)) (G:0<m):∃b cap,sv=.slice (some ⟨b,0,none⟩) m cap:=by
 rcases(H.hp.eT i hi).2 with⟨_,X⟩|⟨b,cap,J,W,_⟩
 ·omega
 ·exact⟨b,cap,W⟩
theorem tF{b m cap sz:Nat}{sv:Value}(G:sv=.slice (some ⟨b,0,none⟩) m cap) (H:P.underlying t=some (.slice e)) (hs:∀w,(sizeOf e).run P w=.ok sz w) (J:ev l x=some sv) (hy:ev l y=some (.int k p)) (hp:0<=p/\p<(m:Int)) :
 cH P l w ⟨d,.indexAddr t x y,ty,pos,af,g⟩ (.pointer (some ⟨b,p.toNat*sz,none⟩)):=by
 subst G
 have:=rB (P:=P) (l:=l) (w:=w) (dd:=d) (ty:=ty) (pos:=pos) (af:=af) (g:=g) H hs J hy hp
 rw[Nat.zero_add]at this
 exact this
theorem tZ{sz j m b cap:Nat}{css:List (Cl sz)}{c c':Cl sz}{sv:Value}(h:Fr n l a) (H:HZ w0 Zi Z hl w) (i:Nat) (hi:hl[i]?=some (.row e sz sv css.length (css.flatMap Subtype.val))) (X:sv=.slice (some ⟨b,0,none⟩) css.length cap)
 (p:Nat) (hc:css[p]?=some c) (hx:ev l x=some (.pointer (some ⟨b,p*sz+j,none⟩))) (hy:ev l y=some V) (hs:∀w,(sizeOf t).run P w=.ok m w) (W:List Value) (Y:V.cells.toList=W) (hk:W.length=m) (h1:allOne W=true) (hj:j+m<=sz)
 (b1:c'.1=putAt c.1 j W){hl':List Own}(hh:hl.set i (.row e sz sv (css.set p c').length ((css.set p c').flatMap Subtype.val))=hl') (kk:∀w',HZ w0 Zi Z hl' w'->wpList P ops Q rest a w') :
 wpList P ops Q (⟨none,.store t x y,ty,pos,af,none⟩::rest) a w:=by
 subst hh
 refine wpList_plain O λK hK=>?_
 have a1:=H.hp.eT i hi
 have a6:p<css.length:=(List.getElem?_eq_some_iff.1 hc).1
 rcases a1.2 with⟨_,hn⟩|⟨gb,b6,G,hv,_,hg,hnc,b2,a7,ht⟩
 ·omega
 · rw[X]at hv
   simp only[Value.slice.injEq,Option.some.injEq,Addr.mk.injEq]at hv
   obtain⟨⟨rfl,_⟩,_,rfl⟩:=hv
   have b3:css.length*sz<=G.toList.length:=by
    simp only[Array.length_toList,a7]
    exact Nat.mul_le_mul_right _ hnc
   have a8:p*sz+j+W.length<=css.length*sz:=by
    have:(p+1)*sz<=css.length*sz:=Nat.mul_le_mul_right _ a6
    rw[Nat.add_mul]at this
    omega
   have b4:w.heap[b]?=some (.cells G.toList.toArray e (0,0)):=by simpa using hg
   obtain⟨w',hr,hw,r1,r2,r3,r4,r5⟩:=dw (P:=P) b (p*sz+j) e W 0 G.toList w b4 (by omega) (ge h1)
   have ad:V.cells.size=m:=by rw[<-hk,<- Y];simp
   have e1:execOp a.eval ⟨none,.store t x y,ty,pos,af,none⟩=Instr.storeAt t (a.eval x) (a.eval y) >>= λ_=>pure .skip:=rfl
   have e2:(execOp a.eval ⟨none,.store t x y,ty,pos,af,none⟩).run P w=.ok .skip w':=by
    rw[e1,h.ev hx,h.ev hy]
    simp[Instr.storeAt,Instr.sureAddr,storeVar,hs,ad,Y,hr]
   unfold Oper.wp
   rw[e2]
   rw[Nat.add_zero]at hw
   have ao:w'.ownsRow 0 e sz sv (css.set p c').length ((css.set p c').flatMap Subtype.val):=by
    refine⟨sJ _,.inr ⟨b,cap,(putAt G.toList (p*sz+j) W).toArray,by rw[X,List.length_set],Nat.zero_le _,hw,by simpa using hnc,b2,?_,?_⟩⟩
    · simp only[List.size_toArray]
      rw[wP (by omega),Array.length_toList,a7]
    · rw[List.length_set]
      show(putAt G.toList (p*sz+j) W).take (css.length*sz)=_
      rw[uS a8 b3,ht,p_ hc (by omega) b1]
   have b0:∀c,(Own.row e sz sv (css.set p c').length ((css.set p c').flatMap Subtype.val)).at=some c->(Own.row e sz sv css.length (css.flatMap Subtype.val)).at=some c\/w.heap.size<=c:=λc hc=>.inl hc
   have J:∀c,c<w.heap.size->(Own.row e sz sv css.length (css.flatMap Subtype.val)).at≠some c->w'.heap[c]?=w.heap[c]?:=λc _ b5=>r5 c λe=>b5 (by rw[e];show sv.ownBlock=some b;rw[X];rfl)
   exact hK _ _ (kk w' (H.turn i hi (H.hp.turn i hi _ ao r1 r2 r3 (by omega) J b0) J b0))
theorem yu{sz len:Nat}(h:Fr n l a) (H:HZ w0 Zi Z hl w) (ht:P.underlying t=some (.slice e)) (hs:∀w,(sizeOf e).run P w=.ok sz w){z:Value}(hz:∀w,(zeroValue e).run P w=.ok z w){J:Array (Nat × Operand)}(W:(Nat.ble 1 (len*sz)&&Nat.ble (len*sz) 1000)=true) (X:Nat.ble len 1000=true)
 {zl:List Value}(Y:(Array.range (len*sz)).map (λi=>z.cells[i % z.cells.size]!)=zl.toArray){pl:List (Nat × Nat)}(hp:∀i p,pl.toArray[i]?=some p->p=(i*sz,sz))
 (us:List Value) (cells:List Value) (a1:nI l (J.toList.map (·.2))=some us) (hf:me pl zl ((J.toList.map (·.1)).zip us)=some cells) (hd:Nat.blt dn n.n=true) (hcl:cells.length=len*sz)
 (kk:∀G v w',Ext w w'->HZ w0 Zi Z (hl++[.row e sz v len cells]) w'->Fr n ((dn,v)::l) G->wpList P ops Q rest G w') :
 wpList P ops Q (⟨some dn,.buildSlice t len J,ty,pos,af,none⟩::rest) a w:=by
 refine st2 h O O hd (pc (w:=w) ht hs hz W Y hp us cells a1 hf) ?_
 rintro v w' ⟨rfl,rfl⟩ G h'
 simp only[Nat.ble_eq]at X
 refine kk G _ _ (Ext.alloc _ _) (H.push (Ext.alloc w _) (.row e sz _ len cells) ⟨hcl,.inr ⟨w.heap.size,len,cells.toArray,O,Nat.zero_le _,heap_alloc_new w _,Nat.le_refl _,by simp only[maxLen];omega,by simpa using hcl,?_⟩⟩ (λb hb=>by simp only[Own.at,Value.ownBlock,Option.some.injEq]at hb;omega)) h'
 rw[<-hcl]
 exact List.take_length
theorem BE{α:Type}{enc:α->List Value}{sz bytes:Nat}{out data:List α}{sv yv:Value}(J:w.ownsRow 0 e sz sv out.length (out.flatMap enc)) (ht:P.underlying t=some (.slice e)) (b1:P.underlying t2=some (.slice e2))
 (H:(P.info? e).map (λi=>(i.zero.map (·.cells.size),i.size,i.bytes))=some (some sz,sz,bytes)) (hsz:Nat.ble 1 sz=true) (b2:Z.inn w) (hr:bx Z yv sz enc data)
 (Y:∀a,(enc a).length=sz) (h1:∀a∈data,allOne (enc a)=true) (hmax:out.length+data.length<=9223372036854775807/\(out.length+data.length)*bytes<=140737488355328) :
 ∃v' w',(Builtin.append_ #[t,t2] ty #[sv,yv]).run P w=.ok v' w'/\w'.ownsRow 0 e sz v' (out++data).length ((out++data).flatMap enc)/\w'.os=w.os/\w'.tape=w.tape/\w'.output=w.output/\w.heap.size<=w'.heap.size/\
  (∀b,b<w.heap.size->sv.ownBlock≠some b->w'.heap[b]?=w.heap[b]?)/\(∀c,v'.ownBlock=some c->sv.ownBlock=some c\/w.heap.size<=c):=by
 have e4:(Builtin.append_ #[t,t2] ty #[sv,yv]).run P w=(Builtin.append_ #[t,t] ty #[sv,yv]).run P w:=by
  obtain⟨c7,b3,_⟩:=Option.map_eq_some_iff.1 H
  obtain⟨bs,sl,sc,b4⟩:∃b l c,sv=.slice b l c:=by
   rcases J.2 with⟨h,_⟩|⟨g,cap,cc,h,_⟩<;>exact⟨_,_,_,h⟩
  rw[b4]
  simp[Builtin.append_,run_underlying ht,run_underlying b1,sizeOf,typeInfo,b3]
 rw[e4]
 rcases hr with⟨rfl,rfl⟩|⟨gb,o,cap,cs',e',b5,hv,c8,hb,hc⟩
 ·refine⟨sv,w,kX (P:=P) (ty:=ty) ht H J,by rw[List.append_nil];exact J,rfl,rfl,rfl,Nat.le_refl _,λ_ _ _=>rfl,λc hc=>.inl hc⟩
 · subst hv
   have a1:=nt Y data
   have a6:∀u∈data.flatMap enc,u.oneCell'=true:=λu hu=>by
    obtain⟨a,hm,ha⟩:=List.mem_flatMap.1 hu
    exact ge (h1 a hm) u ha
   have W:w.heap[gb]?=some (.cells cs'.toArray e' b5):=b2 _ _ hb
   obtain⟨inf,b6,a7⟩:=Option.map_eq_some_iff.1 H
   simp only[Prod.mk.injEq]at a7
   obtain⟨hz,b7,bb⟩:=a7
   obtain⟨z,bk,bq⟩:=Option.map_eq_some_iff.1 hz
   have a8:1<=sz:=by simpa[Nat.ble_eq]using hsz
   obtain⟨v',w',ad,ao,G,_,b0⟩:=run_append_own_at (P:=P) w 0 t ty e inf z sz bytes ht b6 bk b7 bb bq a8 sv out.length (out.flatMap enc) J ⟨gb,o,none⟩ data.length cap (data.flatMap enc) a1
    (λj u hu=>by rw[Addr.add_lit,gx W];exact hc j u hu) a6 (by simpa[maxLen]using hmax.1) hmax.2 (Nat.zero_le _)
   refine⟨v',w',ad,by rw[List.length_append,List.flatMap_append];exact ao,G.os,G.tape,G.output,G.size,λb' W c6=>G.block b' W (λe=>c6 e.symm),λc X=>?_⟩
   rcases b0 with e|e
   ·exact .inl (by rw[<-e];exact X)
   · rw[e]at X
     exact .inr (by simp only[Option.some.injEq]at X;omega)
theorem HZ.i8(H:HZ w0 Zi Z hl w) (i:Nat){b:Nat}{o:Obj}(hi:hl[i]?=some (.blk b o)){hl':List Own}(hh:hl.set i (.row 0 1 (.slice none 0 0) 0 [])=hl'):∃Z',Z.sub Z'/\HZ w0 Zi Z' hl' w/\Z' b=some o:=by
 subst hh
 have hb:=H.hp.get i hi
 have X:Z b=none:=H.off _ (List.mem_of_getElem? hi) b rfl
 have a1:i<hl.length:=(List.getElem?_eq_some_iff.1 hi).1
 have J:∀c,(Own.row 0 1 (.slice none 0 0) 0 []).at=some c->(Own.blk b o).at=some c\/w.heap.size<=c:=λc G=>by simp[Own.at,Value.ownBlock]at G
 have H':=H.turn i hi (H.hp.turn i hi (.row 0 1 (.slice none 0 0) 0 []) (World.ownsRow_nil w 0 0 1) rfl rfl rfl (Nat.le_refl _) (λ_ _ _=>rfl) J) (λ_ _ _=>rfl) J
 refine⟨Z.add b o,FZ.jM X,⟨H'.hp,λc u G=>?_,λx hx c G=>?_,H.sub.trans (FZ.jM X),λc u G=>?_⟩,by simp[FZ.add]⟩
 · unfold FZ.add at G
   split at G
   ·rename_i Y;rw[Y,hb];exact G
   ·exact H.zin c u G
 · unfold FZ.add
   rw[if_neg]
   ·exact H'.off x hx c G
   · intro Y
     subst Y
     obtain⟨j,hj⟩:=List.getElem?_of_mem hx
     by_cases W:j=i
     · subst W
       rw[List.getElem?_set_self a1]at hj
       obtain rfl:=Option.some.inj hj
       simp[Own.at,Value.ownBlock]at G
     · rw[List.getElem?_set_ne (λe=>W e.symm)]at hj
       exact H.hp.apart j i x _ hj hi W c G O
 · unfold FZ.add at G
   split at G
   ·rename_i Y;right;subst Y;exact H.hp.lo i _ hi c O
   ·exact H.new c u G
end
section
variable {w0:Bs}{w w':World}{Zi Z:FZ}{hl:List Own}{e:TypeId}{sz:Nat}{css css':List (Cl sz)}{sv:Value}{i b cap:Nat}{cs cs':List Value}
end
section
variable {P:Program}{ops:Array Oper}{n:Nm}{l:List (Nat × Value)}{a:Act}{w:World}{x y:Operand}{t ty e:TypeId}{pos:String}{af:Array Edge}
end
theorem HZ.EC{w0:Bs}{w:World}{Zi Z:FZ}{hl:List Own}(H:HZ w0 Zi Z hl w):Zi.inn w:=λb o e=>H.zin b o (H.sub b o e)
theorem HZ.dG{w0:Bs}{w:World}{Zi Z:FZ}{hl:List Own}{o:Own}(H:HZ w0 Zi Z hl w) (i:Nat) (hi:hl[i]?=some o):∀b,o.at=some b->Z b=none:=H.off o (List.mem_of_getElem? hi)
def EW{α β:Type}(P:Program) (f:FuncId) (cp:Array Value) (Z:FZ) (arg:α->List Value) (res:β->Value) (g:α->Option β):Prop:=
 (∀as w,(callFunc f as).run P w=.ok (.enter f as) w)/\∀c r w,Z.inn w->g c=some r->Calls P f (arg c++cp.toList).toArray w (bj λv w'=>v=res r/\Ext w w')
section
variable {α β:Type}{P:Program}{f:FuncId}{cp:Array Value}{Z:FZ}{E:vt α}{w:World}{arg:α->List Value}{res:β->Value}{l:List (Nat × Value)}{d:Option Nat}{x:Operand}{xs:Array Operand}{ats:Array TypeId}{ty:TypeId}{pos:String}{af:Array Edge}{gd:Option (Nat × Bool)}
theorem EN{g:α->Option β}(h:EW P f cp Z arg res g) (hi:Z.inn w) (G:ev l x=some (.func (.func f) #[] cp)){c:α}{r:β}(H:nI l xs.toList=some (arg c)) (J:g c=some r) :
 dt P l w ⟨d,.call { callee:=.value x,args:=xs,argTypes:=ats },ty,pos,af,gd⟩ (λv w'=>v=res r/\Ext w w'):=
 wq (arg c) G H h.1 (arg c++cp.toList) rfl (h.2 c r w hi J)
end
section
variable {P:Program}{n:Nm}{l:List (Nat × Value)}{a:Act}{w:World}{Q:Exit->Act->World->Prop}{R:Value->World->Prop}{fn:Func}
theorem r0(G:∀a w,Out P fn R a w->Q .ret a w) (h:Fr n l a) (J:fn.results=#[]) (W:R (.tuple #[]) w) (H:n.ds=[]:=by rfl):Code.ret.wp P Q a w:=qe (G _ _ (Cw h J W H))
end
section
variable {P:Program}{ops:Array Oper}{Q:Exit->Act->World->Prop}{rest:List Oper}{n:Nm}{dn:Nat}{l:List (Nat × Value)}{a:Act}{w:World}{d:Option Nat}{x y:Operand}{t t' ty:TypeId}{pos:String}{af:Array Edge}{g:Option (Nat × Bool)}{V V':Value}{e:TypeId}{k k':IntKind}{p q:Int}
theorem DQ{w0:Bs}{Zi Z:FZ}{hl:List Own}{α:Type}{enc:α->List Value}{sz bytes:Nat}{out data:List α}{sv yv:Value}{t2 e2:TypeId}{o:Oper}(h:Fr n l a) (H:HZ w0 Zi Z hl w) (i:Nat) (hi:hl[i]?=some (.row e sz sv out.length (out.flatMap enc)))
 (ho:o=⟨some dn,.call { callee:=.builtin .append,args:=#[x,y],argTypes:=#[t,t2] },ty,pos,af,none⟩) (ht:P.underlying t=some (.slice e)) (a6:P.underlying t2=some (.slice e2))
 (G:(P.info? e).map (λi=>(i.zero.map (·.cells.size),i.size,i.bytes))=some (some sz,sz,bytes)) (a7:Nat.ble 1 sz=true) (hx:ev l x=some sv) (hy:ev l y=some yv) (hr:bx Z yv sz enc data)
 (J:∀a,(enc a).length=sz) (h1:∀a∈data,allOne (enc a)=true) (W:out.length+data.length<=9223372036854775807/\(out.length+data.length)*bytes<=140737488355328) :
 ∃X w',R1 P ops o a w X w'/\HZ w0 Zi Z (hl.set i (.row e sz X (out++data).length ((out++data).flatMap enc))) w':=by
 subst ho
 obtain⟨X,w',Y,a1,r1,r2,r3,r4,r5,r6⟩:=BE (ty:=ty) (H.hp.eT i hi) ht a6 G a7 H.zin hr J h1 W
 have e1:execOp a.eval ⟨some dn,.call { callee:=.builtin .append,args:=#[x,y],argTypes:=#[t,t2] },ty,pos,af,none⟩=Builtin.append_ #[t,t2] ty (#[x,y].map a.eval) >>= λv=>pure (.value v):=rfl
 refine⟨X,w',.inr ⟨bE O,.inl ?_⟩,H.turn i hi (H.hp.turn i hi (.row e sz X (out++data).length ((out++data).flatMap enc)) a1 r1 r2 r3 r4 r5 r6) r5 r6⟩
 rw[e1]
 simp[h.ev hx,h.ev hy,Y]
theorem Al(G:P.underlying t=some (.int k)) (H:P.underlying t'=some .string) (J:ev l x=some (.int k p)) (hp:0<=p/\p<128):cH P l w ⟨d,.convert t t' x,ty,pos,af,g⟩ (S [UInt8.ofNat p.toNat]):=λn a h=>by
 have W:execOp a.eval ⟨d,.convert t t' x,ty,pos,af,g⟩=convert t t' (a.eval x) >>= λv=>pure (.value v):=rfl
 rw[W,h.ev J]
 have X:Utf8.valid p=true:=by simp[Utf8.valid];omega
 have Y:p.toNat<128:=by omega
 simp[convert,run_underlying G,run_underlying H,Conv.intToString,Utf8.encode,X,Y]
theorem xi{b m:Nat}(G:P.underlying t=some (.array m e)) (hs:∀w,(sizeOf e).run P w=.ok 1 w) (H:ev l x=some (.pointer (some ⟨b,0,none⟩))) (hy:ev l y=some (.int k p)) (hp:0<=p/\p<(m:Int)) :
 cH P l w ⟨d,.indexAddr t x y,ty,pos,af,g⟩ (.pointer (some ⟨b,p.toNat,none⟩)):=λn a h=>by
 have J:execOp a.eval ⟨d,.indexAddr t x y,ty,pos,af,g⟩=Instr.indexAt t (a.eval x) (a.eval y) >>= λv=>pure (.value v):=rfl
 rw[J,h.ev H,h.ev hy]
 simp[Instr.indexAt,asIntOf,run_underlying G,hp,hs,Addr.add_lit,Instr.sureAddr]
end
end Go.Stp
end
section
namespace Go.Stp
open Go.RowKit
section
variable {κ ν:Type} [DecidableEq κ]
def mentL(ek:κ->Value) (ev:ν->Value):List (κ × ν)->Nat->List MapEntry
 |[],_=>[]
 |p::r,j=>⟨ek p.1,ev p.2,j⟩::mentL ek ev r (j+1)
def cJ(ek:κ->Value) (ev:ν->Value) (m:List (κ × ν)):Obj:=.map (mentL ek ev m 0).toArray m.length
def kAt(k:κ):List (κ × ν)->Nat->Option (Nat × ν)
 |[],_=>none
 |p::r,i=>if k=p.1 then some (i,p.2)else kAt k r (i+1)
def ld(m:List (κ × ν)) (k:κ) (v:ν):List (κ × ν):=match kAt k m 0 with
 |some (i,_)=>m.set i (k,v)
 |none=>m++[(k,v)]
theorem rC(ek:κ->Value) (ev:ν->Value):∀(m:List (κ × ν)) (j:Nat),(mentL ek ev m j).length=m.length
 |[],_=>rfl
 |_::r,j=>by simp[mentL,rC ek ev r]
theorem fF(ek:κ->Value) (ev:ν->Value):∀(m:List (κ × ν)) (j i:Nat),(mentL ek ev m j)[i]?=(m[i]?).map λp=>(⟨ek p.1,ev p.2,j+i⟩:MapEntry)
 |[],_,i=>by simp[mentL]
 |p::r,j,0=>by simp[mentL]
 |p::r,j,i+1=>by
  simp only[mentL,List.getElem?_cons_succ]
  rw[fF ek ev r (j+1) i]
  have e:j+1+i=j+(i+1):=by omega
  rw[e]
theorem m9{k:κ}:∀{m:List (κ × ν)}{i:Nat}{q:Nat × ν},kAt k m i=some q->i<=q.1/\m[q.1-i]?=some (k,q.2)
 |p::r,i,q,h=>by
  unfold kAt at h
  split at h
  · rename_i e
    obtain rfl:=Option.some.inj h
    simp[e]
  · obtain⟨G,h2⟩:=m9 h
    refine⟨by omega,?_⟩
    have e:q.1-i=(q.1-(i+1))+1:=by omega
    rw[e]
    simpa using h2
structure wS (P:Program) (kt:TypeId) (ek:κ->Value):Prop where
 check:∀b k w,(Instr.checkKey b 10000 kt (ek k)).run P w=.ok () w
 find:∀{ν:Type}(ev:ν->Value) (k:κ) (m:List (κ × ν)) w,(Instr.findKey kt (ek k) (mentL ek ev m 0)).run P w=.ok ((kAt k m 0).map λq=>(q.1,ev q.2)) w
 stay:∀k w,(Instr.keyThatStays (ek k) (ek k)).run P w=.ok (ek k) w
theorem ke{P:Program}{kt:TypeId}{ek:κ->Value}{ev:ν->Value}(hs:∀a b w,(Op.equal kt (ek a) (ek b)).run P w=.ok (decide (a=b)) w) (k:κ):∀(m:List (κ × ν)) (j i:Nat) w,(Instr.findAsking kt (ek k) (mentL ek ev m j) i).run P w=.ok ((kAt k m i).map λq=>(q.1,ev q.2)) w
 |[],j,i,w=>by simp[mentL,Instr.findAsking,kAt]
 |p::r,j,i,w=>by
  simp only[mentL,Instr.findAsking,kAt,Sem.run_bind,hs,Result.andThen_ok]
  by_cases h:k=p.1
  ·simp[h]
  ·simp[h,ke hs k r (j+1) (i+1)]
theorem wS.agg{P:Program}{kt:TypeId}{ek:κ->Value}{G:Array Field}(hd:P.underlying kt=some (.struct G)) (J:∀b k w,(Instr.checkKey b 10000 kt (ek k)).run P w=.ok () w) (W:∀a b,Instr.sameNow (.struct G) (ek a) (ek b)=none)
 (hs:∀a b w,(Op.equal kt (ek a) (ek b)).run P w=.ok (decide (a=b)) w) (H:∀k,Instr.sameBits 10000 (ek k) (ek k)=true):wS P kt ek where
 check:=J
 find ev k m w:=by
  unfold Instr.findKey
  simp only[Sem.run_bind,run_underlying hd,Result.andThen_ok]
  cases m with
  |nil=>simp[mentL,Instr.findNow,kAt]
  |cons p r=>
   have:Instr.findNow (.struct G) (ek k) (mentL ek ev (p::r) 0) 0=none:=by simp only[mentL,Instr.findNow,W]
   rw[this]
   exact ke hs k (p::r) 0 0 w
 stay k w:=by simp[Instr.keyThatStays,H]
variable {P:Program}{ek:κ->Value}{ev:ν->Value}{m:List (κ × ν)}{w:World}{b:Nat}{t kt et:TypeId}
theorem xh(k:κ) (v:ν):(match(kAt k m 0).map λq=>(q.1,ev q.2)with
 |some (i,_)=>Obj.map ((mentL ek ev m 0).toArray.modify i λe=>{ e with key:=ek k,val:=ev v }) m.length
 |none=>Obj.map ((mentL ek ev m 0).toArray.push { key:=ek k,val:=ev v,born:=m.length }) (m.length+1))=cJ ek ev (ld m k v):=by
 unfold ld cJ
 cases h:kAt k m 0 with
 |none=>
  simp only[Option.map_none,List.length_append,List.length_cons,List.length_nil,Nat.zero_add]
  congr 1
  apply Array.toList_inj.1
  simp only[Array.toList_push,List.toList_toArray]
  apply List.ext_getElem?
  intro i
  rw[fF,List.getElem?_append,List.getElem?_append,rC]
  split
  ·rw[fF]
  · rename_i hi
    by_cases e:i=m.length
    · subst e
      simp
    · rw[List.getElem?_eq_none (by simp;omega),List.getElem?_eq_none (by simp;omega)]
      rfl
 |some q=>
  obtain⟨i,u⟩:=q
  obtain⟨J,G⟩:=m9 h
  simp only[Nat.sub_zero]at G
  simp only[Option.map_some,List.length_set]
  congr 1
  apply Array.toList_inj.1
  apply List.ext_getElem?
  intro j
  simp only[Array.toList_modify,List.toList_toArray]
  rw[fF,List.getElem?_modify,fF,List.getElem?_set]
  by_cases e:i=j
  · subst e
    have H:=(List.getElem?_eq_some_iff.1 G).1
    simp[G,H]
  ·simp[e]
theorem qC(K:wS P kt ek) (X:P.underlying t=some (.map kt et)) (J:w.heap[b]?=some (cJ ek ev m)) (k:κ) (v:ν) :
 (Instr.mapUpdate t (.map (some b)) (ek k) (ev v)).run P w=.ok () { w with heap:=w.heap.setIfInBounds b (cJ ek ev (ld m k v)) }:=by
 have Y:=MapKept.run_getObj_map (P:=P) J
 have G:=λo=>MapKept.run_setObj_map (P:=P) o J
 have H:=xh (ek:=ek) (ev:=ev) (m:=m) k v
 unfold Instr.mapUpdate
 simp only[Sem.run_bind,run_underlying X,Result.andThen_ok,Y,K.check,List.toList_toArray,K.find ev k m]
 cases h:kAt k m 0 with
 |none=>
  rw[h]at H
  simp only[Option.map_none]at H⊢
  rw[G,<- H]
 |some q=>
  obtain⟨i,u⟩:=q
  rw[h]at H
  simp only[Option.map_some]at H⊢
  obtain⟨h1,W⟩:=m9 h
  simp only[Nat.sub_zero]at W
  have hk:(((mentL ek ev m 0).toArray[i]?).map (·.key)).getD (ek k)=ek k:=by
   simp[fF,W]
  simp only[Sem.run_bind,hk,K.stay,Result.andThen_ok]
  rw[G,<- H]
end
section
variable {κ ν:Type} [DecidableEq κ]{P:Program}{ops:Array Oper}{Q:Exit->Act->World->Prop}{rest:List Oper}{n:Nm}{dn:Nat}{l:List (Nat × Value)}{a:Act}{w:World}{w0:Bs}{hl:List Own}{Zi Z:FZ}
 {d:Option Nat}{x y z:Operand}{t kt et ty:TypeId}{pos:String}{af:Array Edge}{g:Option (Nat × Bool)}{b:Nat}{ek:κ->Value}{ev':ν->Value}{m:List (κ × ν)}
theorem xw(ek:κ->Value) (ev':ν->Value) (h:Fr n l a) (H:HZ w0 Zi Z hl w) (hd:Nat.blt dn n.n=true)
 (k:∀G b w',Ext w w'->HZ w0 Zi Z (hl++[.blk b (cJ ek ev' [])]) w'->Fr n ((dn,.map (some b))::l) G->wpList P ops Q rest G w') :
 wpList P ops Q (⟨some dn,.makeMap t none,ty,pos,af,none⟩::rest) a w:=by
 refine wpList_plain O λK J=>?_
 have W:execOp a.eval ⟨some dn,.makeMap t none,ty,pos,af,none⟩=Instr.makeMap t none >>= λv=>pure (.value v):=rfl
 have e2:(execOp a.eval ⟨some dn,.makeMap t none,ty,pos,af,none⟩).run P w=.ok (.value (.map (some w.heap.size))) (w.alloc (.map #[] 0)):=by
  rw[W]
  simp[Instr.makeMap]
 unfold Oper.wp
 rw[e2]
 refine J _ _ (k _ w.heap.size _ (Ext.alloc _ _) (H.push (Ext.alloc _ _) (.blk _ _) (heap_alloc_new w _) (λb X=>by simp only[Own.at,Option.some.injEq]at X;omega)) (h.put hd _))
theorem uK(K:wS P kt ek) (h:Fr n l a) (H:HZ w0 Zi Z hl w) (i:Nat) (hi:hl[i]?=some (.blk b (cJ ek ev' m))) (Y:P.underlying t=some (.map kt et)) (hx:ev l x=some (.map (some b))){k:κ}(hy:ev l y=some (ek k)){v:ν}(hz:ev l z=some (ev' v))
 {hl':List Own}(hh:hl.set i (.blk b (cJ ek ev' (ld m k v)))=hl') (kk:∀w',HZ w0 Zi Z hl' w'->wpList P ops Q rest a w') :
 wpList P ops Q (⟨none,.mapUpdate t x y z,ty,pos,af,none⟩::rest) a w:=by
 subst hh
 refine wpList_plain O λK' hK=>?_
 have X:=H.hp.get i hi
 have e1:execOp a.eval ⟨none,.mapUpdate t x y z,ty,pos,af,none⟩=Instr.mapUpdate t (a.eval x) (a.eval y) (a.eval z) >>= λ_=>pure .skip:=rfl
 have e2:(execOp a.eval ⟨none,.mapUpdate t x y z,ty,pos,af,none⟩).run P w=.ok .skip { w with heap:=w.heap.setIfInBounds b (cJ ek ev' (ld m k v)) }:=by
  rw[e1,h.ev hx,h.ev hy,h.ev hz]
  simp[qC K Y X]
 unfold Oper.wp
 rw[e2]
 obtain⟨s1,s2⟩:=MapKept.heap_set (o':=cJ ek ev' (ld m k v)) X
 have J:∀c,(Own.blk b (cJ ek ev' (ld m k v))).at=some c->(Own.blk b (cJ ek ev' m)).at=some c\/w.heap.size<=c:=λc hc=>.inl hc
 have G:∀c,c<w.heap.size->(Own.blk b (cJ ek ev' m)).at≠some c->({ w with heap:=w.heap.setIfInBounds b (cJ ek ev' (ld m k v)) }:World).heap[c]?=w.heap[c]?:=λc _ W=>s2 c λe=>W (by rw[e];rfl)
 exact hK _ _ (kk _ (H.turn i hi (H.hp.turn i hi (.blk b (cJ ek ev' (ld m k v))) s1 O O O (by simp) G J) G J))
end
end Go.Stp
end
section
namespace Go.ValP
open Go.Stp
structure C where
 s:Int
 c:Int
 r:Int
deriving Inhabited,DecidableEq
abbrev cL(x:C):List Value:=[.int .i64 x.s,.int .i64 x.c,.int .i64 x.r]
abbrev cV(x:C):Value:=.agg #[.int .i64 x.s,.int .i64 x.c,.int .i64 x.r]
structure Rf where
 c:C
 ac:Bool
 ar:Bool
deriving Inhabited,DecidableEq
structure A4 where
 a:Int
 b:Int
 c:Int
 d:Int
deriving Inhabited,DecidableEq
structure T where
 n:Int
 v:List C
deriving Inhabited,DecidableEq
end Go.ValP
end
section
namespace Go.Stp
open Go.RowKit
section
variable {P:Program}{ops:Array Oper}{Q:Exit->Act->World->Prop}{rest:List Oper}{n:Nm}{dn:Nat}{l:List (Nat × Value)}{a:Act}{w:World}{w0:Bs}{hl:List Own}{Zi Z:FZ}
 {d:Option Nat}{x y:Operand}{t t' ty:TypeId}{pos:String}{af:Array Edge}{g:Option (Nat × Bool)}{V V':Value}{cs:List Value}{e:TypeId}{b off:Nat}{k:IntKind}{p:Int}
theorem uf{T:TypeId}{name:String}{f:FuncId}{xs:Array Operand}{ats:Array TypeId}(G:List Value){R:Value->World->Prop}
 (J:∀v as w,(callMethod (.iface T v) name as).run P w=.ok (.enter f (#[v]++as)) w) (W:ev l x=some (.iface T V)) (X:nI l xs.toList=some G)
 (Y:Calls P f (V::G).toArray w (bj R)):dt P l w ⟨d,.call { callee:=.invoke x name,args:=xs,argTypes:=ats },ty,pos,af,g⟩ R:=λn a h K Q hk=>by
 have e1:execOp a.eval ⟨d,.call { callee:=.invoke x name,args:=xs,argTypes:=ats },ty,pos,af,g⟩=callMethod (a.eval x) name ((#[a.eval x]++xs.map a.eval).extract 1 (#[a.eval x]++xs.map a.eval).size):=by
  show(do let d <- (pure { target:=.fn (.method name) #[],args:=#[a.eval x]++xs.map a.eval }:Sem Deferred);invoke d.target d.args)=_
  have e0:(#[a.eval x]++Array.map a.eval xs)[0]?=some (a.eval x):=by rw[Array.getElem?_append_left (Nat.zero_lt_one)];rfl
  simp[invoke,e0]
 have e2:(#[a.eval x]++xs.map a.eval).extract 1 (#[a.eval x]++xs.map a.eval).size=G.toArray:=by
  rw[h.wO X]
  simp
 unfold Oper.wp
 rw[e1,e2,h.ev W,J]
 have e3:#[V]++G.toArray=(V::G).toArray:=by simp
 rw[e3]
 exact Y.mono λe w' H=>by
  cases e with
  |returned v=>exact hk v w' H
  |panicked _=>exact H.elim
  |outgrown=>exact H.elim
theorem uu(H:∀w,(Instr.build t #[]).run P w=.ok V w):cH P l w ⟨d,.build t #[],ty,pos,af,g⟩ V:=λn a h=>by
 have G:execOp a.eval ⟨d,.build t #[],ty,pos,af,g⟩=Instr.build t (#[].map λ(i,x)=>(i,a.eval x)) >>= λv=>pure (.value v):=rfl
 rw[Array.map_empty]at G
 rw[G]
 simp[H]
theorem ax{q:Addr}(G:ev l x=some (.pointer (some q))):cH P l w ⟨d,.nilCheck x,ty,pos,af,g⟩ (.pointer (some q)):=λn a h=>by
 have H:execOp a.eval ⟨d,.nilCheck x,ty,pos,af,g⟩=(match a.eval x with
  |.pointer none|.nilIface|.nilFunc=>runtimePanic .nilDeref
  |.func (.method name) first captured=>
   match(first[0]?:Option Value)with
   |some .nilIface=>runtimePanic .nilDeref
   |some (.iface t w)=>do
    if(<- nilAhead ((<- program).types.size+Made.depth) t w name) != some false then
     unsupported (.noEntry "op/nilCheck.the method's receiver behind this interface value is a nil pointer, or cannot be seen to be none, and the arguments act or may panic (ledger 612)")
    pure (.value (.func (.method name) first captured))
   |_=>pure (.value (.func (.method name) first captured))
  |x=>pure (.value x):Sem Next):=rfl
 rw[H,h.ev G]
 rfl
theorem jd(G:∀v w,(Instr.makeInterface t v).run P w=.ok (.iface t v) w) (H:ev l x=some V):cH P l w ⟨d,.makeInterface t x,ty,pos,af,g⟩ (.iface t V):=λn a h=>by
 have J:execOp a.eval ⟨d,.makeInterface t x,ty,pos,af,g⟩=Instr.makeInterface t (a.eval x) >>= λv=>pure (.value v):=rfl
 rw[J,h.ev H]
 simp[G]
theorem l4{m sz:Nat}(G:P.underlying t=some (.array m e)) (hs:∀w,(sizeOf e).run P w=.ok sz w) (H:ev l x=some (.pointer (some ⟨b,off,none⟩))) (hy:ev l y=some (.int k p)) (hp:0<=p/\p<(m:Int)) :
 cH P l w ⟨d,.indexAddr t x y,ty,pos,af,g⟩ (.pointer (some ⟨b,off+p.toNat*sz,none⟩)):=λn a h=>by
 have J:execOp a.eval ⟨d,.indexAddr t x y,ty,pos,af,g⟩=Instr.indexAt t (a.eval x) (a.eval y) >>= λv=>pure (.value v):=rfl
 rw[J,h.ev H,h.ev hy]
 have W:(⟨b,off,none⟩:Addr).add (p.toNat*sz)=⟨b,off+p.toNat*sz,none⟩:=by
  unfold Addr.add
  by_cases X:p.toNat*sz=0<;>simp[X]
 simp[Instr.indexAt,asIntOf,Instr.sureAddr,run_underlying G,hs,hp,W]
theorem rx{α:Type}{enc:α->List Value}{sz:Nat}(G:∀a,(enc a).length=sz):∀{xs:List α}{k:Nat}{v:α},xs[k]?=some v->((xs.flatMap enc).drop (k*sz)).take sz=enc v
 |u::r,0,v,h=>by
  simp only[List.getElem?_cons_zero,Option.some.injEq]at h
  subst h
  simp only[Nat.zero_mul,List.drop_zero,List.flatMap_cons]
  rw[List.take_append_of_le_length (by rw[G];exact Nat.le_refl _),List.take_of_length_le (by rw[G];exact Nat.le_refl _)]
 |u::r,k+1,v,h=>by
  simp only[List.getElem?_cons_succ]at h
  have H:(k+1)*sz=(enc u).length+k*sz:=by rw[G,Nat.add_mul];omega
  rw[List.flatMap_cons,H,List.drop_length_add_append]
  exact rx G h
 |[],k,v,h=>by simp at h
theorem tN{α:Type}{enc:α->List Value}{sz:Nat}(G:∀a,(enc a).length=sz){v:α}:∀{xs:List α}{k:Nat},k<xs.length->putAt (xs.flatMap enc) (k*sz) (enc v)=(xs.set k v).flatMap enc
 |u::r,0,_=>by
  simp only[Nat.zero_mul,List.set_cons_zero,List.flatMap_cons,putAt]
  rw[G]
  have H:0+sz=(enc u).length+0:=by rw[G];omega
  rw[H,List.drop_length_add_append]
  simp
 |u::r,k+1,h=>by
  simp only[List.length_cons]at h
  have H:(k+1)*sz=(enc u).length+k*sz:=by rw[G,Nat.add_mul];omega
  rw[List.flatMap_cons,H,oE,tN G (by omega)]
  rfl
 |[],k,h=>by simp at h
theorem xX{α:Type}{enc:α->List Value}{sz T:Nat}{xs:List α}{v:α}(J:Nat) (W:ev l x=some (.pointer (some ⟨b,off,none⟩))) (X:∀w,(isAgg t).run P w=.ok true w) (hs:∀w,(sizeOf t).run P w=.ok sz w) (Y:w.heap[b]?=some (aB (xs.flatMap enc) T))
 (hk:xs[J]?=some v) (H:off=J*sz) (G:∀a,(enc a).length=sz):cH P l w ⟨d,.load t x,ty,pos,af,g⟩ (.agg (enc v).toArray):=
 dL (enc v) W X hs Y (by rw[H];exact rx G hk) (G v)
theorem xy{α:Type}{enc:α->List Value}{sz T:Nat}{xs:List α}{v:α}(W:Nat) (h:Fr n l a) (H:HZ w0 Zi Z hl w) (i:Nat) (hx:ev l x=some (.pointer (some ⟨b,off,none⟩))) (hy:ev l y=some (.agg (enc v).toArray)) (hi:hl[i]?=some (.blk b (aB (xs.flatMap enc) T)))
 (hs:∀w,(sizeOf t).run P w=.ok sz w) (G:∀a,(enc a).length=sz) (h1:allOne (enc v)=true) (hk:W<xs.length) (J:off=W*sz){hl':List Own}(X:hl.set i (.blk b (aB ((xs.set W v).flatMap enc) T))=hl')
 (kc:∀w',HZ w0 Zi Z hl' w'->wpList P ops Q rest a w') :
 wpList P ops Q (⟨none,.store t x y,ty,pos,af,none⟩::rest) a w:=by
 have Y:(xs.flatMap enc).length=xs.length*sz:=fe enc sz G xs
 refine ap h H i hx hy hi hs (enc v) O (G v) h1 ?_ _ ?_ X kc
 · rw[Y,J]
   have:(W+1)*sz<=xs.length*sz:=Nat.mul_le_mul_right _ hk
   rw[Nat.add_mul]at this
   omega
 · rw[J]
   exact tN G hk
end
section
variable {w0:Bs}{w w':World}{Zi Z:FZ}{hl:List Own}
theorem Hp.EQ{w0:World}{b:Nat}{o:Obj}(H:Hp w0 hl w){i:Nat}(hi:hl[i]?=some (.blk b o)):w0.heap.size<=b:=by
 rcases H.lo i _ hi b rfl with h|h
 ·exact h
 ·cases h
theorem HZ.dH{b:Nat}{o:Obj}(H:Z.inn w) (J:w.heap[b]?=some o) (G:Z b=none):HZ ⟨w,[b]⟩ Z Z [.blk b o] w:=HZ.A0 H J G
end
end Go.Stp
end
namespace Go.Stp
abbrev I(x:Int):Value:=.int .i64 x
end Go.Stp
