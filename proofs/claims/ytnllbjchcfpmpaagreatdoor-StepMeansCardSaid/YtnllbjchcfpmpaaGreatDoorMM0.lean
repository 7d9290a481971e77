/- Joined texts. -/
import Derived.RangeFuncCalls
import Derived.OrdersIn
import Derived.Test.YtnllbjchcfpmpaaGreatDoorML1
set_option linter.all false
section
namespace Go.Stp
open Go.RowKit
section
variable {P:Program}{ops:Array Oper}{Q:Exit->Act->World->Prop}
def iY(o:Oper):Bool:=match o.op with
 |.defer _=>false
 |_=>true
theorem s_{n:Nat}{row:String}{args:Array Value}{w:World}{R:Value->World->Prop}(l:Nat) (h:Rows P row args w R):RowsIn (Fence.wide.inRound l) n P row args w R:=λc cs _=>
 let ⟨v,w',r,s⟩:=h c cs
 ⟨v,w',r,stepsIn_wide.2 s⟩
theorem Oper.ur{o:Oper}{a:Act}{w:World}{K:Act->World->Prop}{n:Nat}(l:Nat) (hp:iY o=true) (h:o.wp P a w K Q):o.wpIn (Fence.wide.inRound l) n P a w K Q:=by
 have hd:∀c,o.op≠.defer c:=λc e=>by
  unfold iY at hp
  rw[e]at hp
  cases hp
 refine⟨λ_ _=>trivial,?_⟩
 rw[show(Fence.wide.inRound l).round=some l from rfl,Oper.semAt_some l a.eval o hd]
 unfold Oper.wp at h
 generalize (execOp a.eval o).run P w=r at h
 cases r with
 |ok x w'=>
  cases x with
  |value v=>exact h
  |skip=>exact h
  |defer d=>exact h
  |enter f args=>exact⟨λe=>(nomatch e),CallsIn.inRound l (callsIn_wide.2 h)⟩
  |row r args=>exact⟨λe=>(nomatch e),s_ l h⟩
  |_=>exact h.elim
 |halt s w'=>
  cases s with
  |panic v=>exact h
  |_=>exact h.elim
def fm(K:Act->World->Prop):Exit->Act->World->Prop
 |.normal,a,w=>K a w
 |_,_,_=>False
theorem mQ{K:Act->World->Prop}:¬LetsOut (fm K):=λ⟨_,_,h⟩=>h
theorem jN{K:Act->World->Prop}{n:Nat}(l:Nat) (hp:∀(i:Nat) (o:Oper),ops[i]?=some o->iY o=true):∀(f:Nat) (listed:Array Bool) (a:Act) (w:World),wpAny P .any ops (fm K) f listed a w->wpAnyIn (Fence.wide.inRound l) n P .any ops (fm K) f listed a w
 |0,_,_,_,h=>h
 |f+1,listed,a,w,h=>⟨h.1,λi hi=>by
  have E:=h.2 i hi
  unfold wpOp at E
  unfold wpOpIn
  cases G:ops[i]? with
  |none=>rw[G]at E;exact jN l hp f _ _ _ E
  |some o=>
   rw[G]at E
   simp only at E⊢
   by_cases H:Region.wanted o (yielded ops a.tmps)=true
   · rw[if_pos H]at E⊢
     rcases E with E|⟨_,E⟩
     ·exact Oper.ur l (hp i o G) (Oper.wp_mono (λa w=>jN l hp f _ a w) E)
     ·exact absurd E mQ
   · rw[if_neg H]at E⊢
     exact⟨λ_ _=>trivial,jN l hp f _ _ _ E⟩⟩
theorem sN{K:Act->World->Prop}{id:Nat}{a:Act}{w:World}{n:Nat}(l:Nat) (E:P.follows .mixedOrders=true) (hp:ops.all iY=true)
 (h:wpAny P .any ops (fm K) ops.size (Array.replicate ops.size false) a { w with drawn:=w.drawn+1 }):(Code.region id ops true).wpIn (Fence.wide.inRound l) n P (fm K) a w:=
 wpIn_region_any E (jN l (λi o G=>Array.all_eq_true_iff_forall_mem.1 hp o (Array.mem_of_getElem? G)) _ _ _ _ h)
theorem vv{K K' J:Act->World->Prop}{n:Nat}(l:Nat) (hp:∀(i:Nat) (o:Oper),ops[i]?=some o->iY o=true){i:Nat}{a:Act}{w:World}(G:∀a w,K' a w->J a w) (E:wpOp P ops (fm K) i K' a w):wpOpIn (Fence.wide.inRound l) n P ops (fm K) i J a w:=by
 unfold wpOp at E
 unfold wpOpIn
 cases H:ops[i]? with
 |none=>rw[H]at E;exact G _ _ E
 |some o=>
  rw[H]at E
  simp only at E⊢
  by_cases W:Region.wanted o (yielded ops a.tmps)=true
  · rw[if_pos W]at E⊢
    rcases E with E|⟨_,E⟩
    ·exact Oper.ur l (hp i o H) (Oper.wp_mono G E)
    ·exact absurd E mQ
  · rw[if_neg W]at E⊢
    exact⟨λ_ _=>trivial,G _ _ E⟩
theorem oJ{K:Act->World->Prop}{n:Nat}(l:Nat) (hp:∀(i:Nat) (o:Oper),ops[i]?=some o->iY o=true):∀(is:List Nat) (a:Act) (w:World),wpOps P ops (fm K) is a w->wpOpsIn (Fence.wide.inRound l) n P ops (fm K) is a w
 |[],_,_,h=>h
 |i::rest,a,w,h=>by
  rw[wpOps_cons]at h
  rw[wpOpsIn_cons]
  exact vv l hp (oJ l hp rest) h
theorem qY{K:Act->World->Prop}{id:Nat}{ol:List Oper}{a:Act}{w:World}{n:Nat}(l:Nat) (hp:ol.toArray.all iY=true) (h:wpList P ol.toArray (fm K) ol a w):(Code.region id ol.toArray false).wpIn (Fence.wide.inRound l) n P (fm K) a w:=by
 refine wpIn_region (oJ l (λi o E=>Array.all_eq_true_iff_forall_mem.1 hp o (Array.mem_of_getElem? E)) _ _ _ ?_)
 have:=wpOps_eq_wpList (P:=P) (ops:=ol.toArray) (Q:=fm K) ol 0 (λj=>by simp)
 rw[<-List.range_eq_range']at this
 rw[show ol.toArray.size=ol.length by simp,this]
 exact h
end
end Go.Stp
end
section
namespace Go.Stp
open Go.RowKit
def marks(Ds:List Nat):List Deferred:=Ds.map λD=>{ target:=.collected D,args:=#[] }
structure DZ (w0:Bs) (Zi Z:FZ) (Ds:List Nat):Prop where
 nd:Ds.Nodup
 z:∀D∈Ds,Z D=some (.deferred (some []))
 zi:∀D∈Ds,Zi D=none
 lo:∀D∈Ds,w0.heap.size<=D
def shut:List Nat->World->World
 |[],w=>w
 |D::Ds,w=>shut Ds (w.putObj D (.deferred none))
def FZ.cut(Z:FZ) (D:Nat):FZ:=λb=>if b=D then none else Z b
def FZ.less(Z:FZ):List Nat->FZ
 |[]=>Z
 |D::Ds=>FZ.less (Z.cut D) Ds
section
variable {w0:Bs}{w w':World}{Zi Z Z':FZ}{hl:List Own}{Ds:List Nat}{D:Nat}
theorem DZ.nil:DZ w0 Zi Z []:=⟨.nil,(λ_ h=>nomatch h),(λ_ h=>nomatch h),(λ_ h=>nomatch h)⟩
theorem DZ.sub(d:DZ w0 Zi Z Ds) (h:Z.sub Z'):DZ w0 Zi Z' Ds:=⟨d.nd,λD E=>h _ _ (d.z D E),d.zi,d.lo⟩
theorem DZ.tail(d:DZ w0 Zi Z (D::Ds)):DZ w0 Zi (Z.cut D) Ds:=
 ⟨(List.nodup_cons.1 d.nd).2,λE G=>by
  unfold FZ.cut
  rw[if_neg (λe:E=D=>(List.nodup_cons.1 d.nd).1 (e▸G))]
  exact d.z E (List.mem_cons_of_mem _ G),λE G=>d.zi E (List.mem_cons_of_mem _ G),λE G=>d.lo E (List.mem_cons_of_mem _ G)⟩
theorem FZ.DU(h:Z D=some (.deferred (some []))):Z.subC (Z.cut D):=λb cs e fz E=>by
 unfold FZ.cut
 split
 ·rename_i G;rw[G,h]at E;cases E
 ·exact E
theorem FZ.subC.trans{Z Z' E:FZ}(h:Z.subC Z') (k:Z'.subC E):Z.subC E:=λb cs e fz G=>k b cs e fz (h b cs e fz G)
theorem DZ.less:∀{Ds:List Nat}{Z:FZ},DZ w0 Zi Z Ds->Z.subC (Z.less Ds)
 |[],_,_=>λ_ _ _ _ h=>h
 |D::Ds,Z,d=>by
  show Z.subC ((Z.cut D).less Ds)
  exact(FZ.DU (d.z D (by simp))).trans d.tail.less
theorem HZ.DP(H:HZ w0 Zi Z hl w) (hz:Z D=some (.deferred (some []))) (G:Zi D=none) (J:w0.heap.size<=D):HZ w0 Zi (Z.cut D) hl (w.putObj D (.deferred none)):=by
 have hs:∀b,b≠D->(w.putObj D (.deferred none)).heap[b]?=w.heap[b]?:=λb E=>World.putObj_heap_other E
 have W:∀o∈hl,∀b,o.at=some b->b≠D:=λo X b E e=>by
  have:=H.off o X b E
  rw[e,hz]at this
  cases this
 refine⟨⟨⟨H.hp.below.os,H.hp.below.tape,H.hp.below.output,by rw[World.putObj_size];exact H.hp.below.size,λk Y hn=>(hs k (λe=>?_)).trans (H.hp.below.block k Y hn)⟩,λi o hi=>Own.mS (H.hp.own i o hi) λb E=>hs b (W o (List.mem_of_getElem? hi) b E),H.hp.lo,H.hp.apart⟩,λb o E=>?_,λo X b E=>?_,λb o E=>?_,λb o E=>?_⟩
 · have h1:k<w0.w.heap.size:=Y
   have h2:w0.w.heap.size<=D:=J
   omega
 · unfold FZ.cut at E
   split at E
   ·cases E
   ·exact(hs b (by assumption)).trans (H.zin b o E)
 · unfold FZ.cut
   split
   ·rfl
   ·exact H.off o X b E
 · unfold FZ.cut
   split
   ·rename_i e;rw[e,G]at E;cases E
   ·exact H.sub b o E
 · unfold FZ.cut at E
   split at E
   ·cases E
   ·exact H.new b o E
theorem HZ.shut:∀{Ds:List Nat}{Z:FZ}{w:World},HZ w0 Zi Z hl w->DZ w0 Zi Z Ds->HZ w0 Zi (Z.less Ds) hl (Stp.shut Ds w)
 |[],_,_,H,_=>H
 |D::Ds,Z,w,H,d=>by
  show HZ w0 Zi ((Z.cut D).less Ds) hl (Stp.shut Ds (w.putObj D (.deferred none)))
  exact HZ.shut (H.DP (d.z D (by simp)) (d.zi D (by simp)) (d.lo D (by simp))) d.tail
end
section
variable {P:Program}{fn:Func}{tmps:Array Value}{R:Ending->World->Prop}
theorem mr{n:Nat}:∀{Ds:List Nat}{w:World},Ds.Nodup->(∀D∈Ds,w.heap[D]?=some (.deferred (some [])))->(∃v,(results fn tmps).run P (shut Ds w)=.ok v (shut Ds w)/\R (.returned v) (shut Ds w))->LeavesInM Fence.wide n P fn tmps R (marks Ds) .returning w
 |[],_,_,_,h=>h
 |D::Ds,w,G,hz,h=>⟨by simp,.inl ⟨D,_,rfl,run_takeDeferred (hz D (by simp)),mr (List.nodup_cons.1 G).2 (λE H=>by
  rw[World.putObj_heap_other (λe:E=D=>(List.nodup_cons.1 G).1 (e▸H))]
  exact hz E (List.mem_cons_of_mem _ H)) h⟩⟩
def xx(P:Program) (fn:Func) (R:Value->World->Prop) (a:Act) (w:World):Prop:=
 ∃Ds:List Nat,a.defers=marks Ds/\Ds.Nodup/\(∀D∈Ds,w.heap[D]?=some (.deferred (some [])))/\∃v,(results fn a.tmps).run P (shut Ds w)=.ok v (shut Ds w)/\R v (shut Ds w)
end
section
variable {P:Program}{fn:Func}{n:Nat}{l:List (Nat × Value)}{a:Act}{w:World}{R:Value->World->Prop}{w0:Bs}{Zi Z:FZ}{hl:List Own}{Ds:List Nat}
theorem CA{f:FuncId}{c:Code}{G:List Value}(J:P.funcs[f]?=some fn) (W:fn.body=some c) (X:fn.ntmps=n) (H:Nat.ble G.length n=true)
 (h:∀Q a,Fr n (lK 0 G) a->(∀a w,xx P fn R a w->Q .ret a w)->(∀a w,xx P fn R a w->Q .normal a w)->c.wp P Q a w):Calls P f G.toArray w (bj R):=by
 refine callsIn_wide.1 (callsIn_of_wp_marks (n:=0) J W trivial (wpIn_wide.2 ?_))
 rw[X]
 have E:∀(a:Act) (w:World),xx P fn R a w->LeavesInM Fence.wide 0 P fn a.tmps (bj R) a.defers .returning w:=λa w ⟨Ds,Y,h2,h3,h4⟩=>by
  rw[Y]
  exact mr h2 h3 h4
 exact h _ _ (Fr.enter n G H) E E
theorem Dy(h:Fr ⟨n,marks Ds⟩ l a) (H:HZ w0 Zi Z hl w) (d:DZ w0 Zi Z Ds) (k:∀a w,Z.subC (Z.less Ds)->HZ w0 Zi (Z.less Ds) hl w->Fr n l a->Out P fn R a w):xx P fn R a w:=by
 obtain⟨_,v,E,G⟩:=k { a with defers:=[] } (shut Ds w) d.less (H.shut d) ⟨h.size,rfl,h.has⟩
 exact⟨Ds,h.defers,d.nd,λD J=>H.zin _ _ (d.z D J),v,E,G⟩
end
section
variable {P:Program}{n:Nat}{w:World}
theorem EJ{f:FuncId}{fn:Func}{c:Code}{E:List Value}{R:Value->World->Prop}(W:P.funcs[f]?=some fn) (is:List Nat) (l':List (Nat × Value))
 (h:∀Q a,Fr n l' a->(∀a w,xx P fn R a w->Q .ret a w)->(∀a w,xx P fn R a w->Q .normal a w)->c.wp P Q a w) (X:fn.body=some c:=by rfl) (G:fn.ntmps=n:=by rfl) (H:Nat.ble E.length n=true:=by rfl) (e:kn (lK 0 E) is=l':=by rfl):Calls P f E.toArray w (bj R):=
 CA W X G H λQ a J Y G=>h Q a (J.only is e) Y G
end
section
variable {w0:Bs}{w w':World}{Zi Z Zr Z2:FZ}{hl hl2:List Own}{R i:Nat}{o o':Obj}
theorem HZ.putAt(H:HZ w0 Zi Z hl w) (i:Nat) (hi:hl[i]?=some (.blk R o)) (o':Obj){hl':List Own}(hh:hl.set i (.blk R o')=hl'):HZ w0 Zi Z hl' (w.putObj R o'):=by
 subst hh
 have G:R<w.heap.size:=(Array.getElem?_eq_some_iff.1 (H.hp.get i hi)).1
 have hs:∀b,b<w.heap.size->(Own.blk R o).at≠some b->(w.putObj R o').heap[b]?=w.heap[b]?:=λb _ E=>World.putObj_heap_other λe=>E (by rw[e];rfl)
 exact H.turn i hi (H.hp.turn i hi (.blk R o') (World.putObj_heap_same G) O O O (by rw[World.putObj_size];exact Nat.le_refl _) hs (λb E=>.inl E)) hs (λb E=>.inl E)
theorem HZ.wl(H:HZ w0 Zi Z (hl++[.blk R o]) w) (o':Obj):HZ w0 Zi Z (hl++[.blk R o']) (w.putObj R o'):=
 H.putAt (o:=o) hl.length (by simp) o' (by simp)
theorem HZ.last(H:HZ w0 Zi Z (hl++[.blk R o]) w):w.heap[R]?=some o:=H.hp.get (o:=o) hl.length (by simp)
theorem HZ.own(H:HZ w0 Zi Z hl w):HZ w0 Z Z hl w:=⟨H.hp,H.zin,H.off,FZ.sub.refl _,λ_ _ h=>.inl h⟩
theorem HZ.base(H:HZ w0 Zi Zr hl w) (K:HZ w0 Zr Z2 hl2 w'):HZ w0 Zi Z2 hl2 w':=
 ⟨K.hp,K.zin,K.off,H.sub.trans K.sub,λb o E=>(K.new b o E).elim (H.new b o) .inr⟩
theorem HZ.more{E J:FZ}(H:HZ w0 Zi Zr hl w) (Y:E.sub Zr) (X:Ext w w') (hn:∀b o,J b=some o->E b=some o\/(w.heap.size<=b/\w'.heap[b]?=some o)):∃Z',Zr.sub Z'/\J.sub Z'/\HZ w0 Zi Z' hl w':=by
 have a1:∀b o o',J b=some o->Zr b=some o'->o=o':=λb o o' h1 h2=>by
  rcases hn b o h1 with h|⟨h,_⟩
  · have:=Y b o h
    rw[h2]at this
    exact(Option.some.inj this).symm
  · rw[H.Cd h]at h2
    cases h2
 have hs:Zr.sub (λb=>match J b with|some o=>some o|none=>Zr b):=λb o G=>by
  show(match J b with|some o=>some o|none=>Zr b)=some o
  cases W:J b with
  |none=>exact G
  |some o'=>rw[a1 b o' o W G]
 refine⟨λb=>match J b with|some o=>some o|none=>Zr b,hs,λb o G=>by show(match J b with|some o=>some o|none=>Zr b)=some o;rw[G],H.hp.ext X,λb o G=>?_,λx hx b G=>?_,H.sub.trans hs,λb o G=>?_⟩
 · replace G:(match J b with|some o=>some o|none=>Zr b)=some o:=G
   cases W:J b with
   |none=>rw[W]at G;exact H.zin.ext X b o G
   |some o'=>
    rw[W]at G
    cases G
    rcases hn b o W with h|⟨_,h⟩
    ·exact H.zin.ext X b o (Y b o h)
    ·exact h
 · show(match J b with|some o=>some o|none=>Zr b)=none
   cases W:J b with
   |none=>exact H.off x hx b G
   |some o'=>
    rcases hn b o' W with h|⟨h,_⟩
    · have h1:=Y b o' h
      rw[H.off x hx b G]at h1
      cases h1
    · have:=H.lt x hx b G
      omega
 · replace G:(match J b with|some o=>some o|none=>Zr b)=some o:=G
   cases W:J b with
   |none=>rw[W]at G;exact H.new b o G
   |some o'=>
    rw[W]at G
    cases G
    rcases hn b o W with h|⟨h,_⟩
    ·exact H.new b o (Y b o h)
    ·exact .inr (.inl (Nat.le_trans H.sz h))
end
def Iter{α:Type}(P:Program) (gf:Nat) (cap:Array Value) (enc:α->Value) (xs:List α) (Z:FZ):Prop:=
 ∀(l:Nat) (J:FZ->List α->World->Prop),
  (∀E s A,J E s A->E.inn A)->
  (∀E H s A B,J E s A->Ext A B->(∀b o,H b=some o->E b=some o\/(A.heap.size<=b/\B.heap[b]?=some o))->J H s B)->
  (∀E G x A,J E G A->G++[x] <+: xs->YieldAt Fence.wide 0 P l #[enc x] A λe B=>e=.returned (.bool true)/\J E (G++[x]) B)->
  ∀E W,Z.sub E->J E [] W->CallsIn Fence.wide 0 P gf (#[.func (.yield l) #[] #[]]++cap) W λe B=>(∃v,e=.returned v)/\∃H,J H xs B
theorem Iter.sub{α:Type}{P:Program}{gf:Nat}{cap:Array Value}{enc:α->Value}{xs:List α}{Z Z':FZ}(h:Iter P gf cap enc xs Z) (hz:Z.sub Z'):Iter P gf cap enc xs Z':=
 λl J a b c E W G H=>h l J a b c E W (hz.trans G) H
section
variable {α:Type}{P:Program}{Q:Exit->Act->World->Prop}{N p:Nat}{l:List (Nat × Value)}{a:Act}{w:World}{w0:Bs}{Zi Z:FZ}{hl:List Own}{Ds:List Nat}{g:Operand}{assign body:Code}{gf:Nat}{cap:Array Value}{enc:α->Value}{xs:List α}
theorem yI(J:Nat->List α->FZ->List Own->Prop) (h:Fr ⟨N,marks Ds⟩ l a) (H:HZ w0 Zi Z hl w) (d:DZ w0 Zi Z Ds) (hit:Iter P gf cap enc xs Z)
 (eg:∀args w,(callFunc gf args).run P w=.ok (.enter gf args) w)
 (h0:∀D Z',Z.sub Z'->DZ w0 Zi Z' (D::Ds)->J D [] Z' hl)
 (round:∀(D R:Nat) (o:Obj) (W:List α) (x:α) (Y Zr:FZ) (hl':List Own) (a':Act) (A:World),W++[x] <+: xs->J D W Y hl'->Y.sub Zr->HZ w0 Zr Zr (hl'++[.blk R o]) A->Fr N ((p,enc x)::l) a'->
  assign.wpIn (Fence.wide.inRound R) 0 P (fm λa1 A1=>A1.heap[R]?=some o/\∀o',body.wpIn (Fence.wide.inRound R) 0 P (fm λ_ B=>∃Z2 hl2,J D (W++[x]) Z2 hl2/\HZ w0 Zr Z2 (hl2++[.blk R o']) B) a1 (A1.putObj R o')) a' A)
 (done:∀(D:Nat) (Y Z':FZ) (hl':List Own) (R:Nat) (o:Obj) (a':Act) (A:World),J D xs Y hl'->Y.sub Z'->HZ w0 Zi Z' (hl'++[.blk R o]) A->Fr ⟨N,marks (D::Ds)⟩ l a'->Q .normal a' A)
 (hg:ev l g=some (.func (.func gf) #[] cap):=by rfl) (hp:Nat.blt p N=true:=by rfl) :
 (Code.rangeFunc g #[p] assign body).wp P Q a w:=by
 refine wpIn_wide.1 (wpIn_rangeFunc (F:=Fence.wide) (n:=0) ?_)
 intro fn b0
 rw[show Fence.wide.round=none from rfl]
 obtain⟨rec,G⟩:∃rec:LoopState->Option Code->Loop,rec=λst pe=>{ state:=st,pending:=pe,fn,tmps:=a.tmps,params:=#[p],assign,body,defers:=w.heap.size }:=⟨_,rfl⟩
 have HD:=H.freeze (Ext.alloc w (.deferred (some []))) (heap_alloc_new w _) (Nat.le_refl _)
 have a7:Z w.heap.size=none:=H.Cd (Nat.le_refl _)
 have a6:Z.sub (Z.add w.heap.size (.deferred (some []))):=FZ.jM a7
 have dz:DZ w0 Zi (Z.add w.heap.size (.deferred (some []))) (w.heap.size::Ds):=
  ⟨List.nodup_cons.2 ⟨(λhm=>by have:=d.z _ hm;rw[a7]at this;cases this),d.nd⟩,λD hD=>by
   rcases List.mem_cons.1 hD with rfl|hD
   ·simp[FZ.add]
   ·exact a6 _ _ (d.z D hD),λD hD=>by
   rcases List.mem_cons.1 hD with rfl|hD
   · cases b1:Zi w.heap.size with
     |none=>rfl
     |some o=>have:=H.sub _ _ b1;rw[a7]at this;cases this
   ·exact d.zi D hD,λD hD=>by
   rcases List.mem_cons.1 hD with rfl|hD
   ·exact H.sz
   ·exact d.lo D hD⟩
 have HR:=HD.push (Ext.alloc (w.alloc (.deferred (some []))) (.loop (rec .ready none))) (.blk (w.heap.size+1) (.loop (rec .ready none))) (by
  have:=heap_alloc_new (w.alloc (.deferred (some []))) (.loop (rec .ready none))
  rw[World.size_alloc]at this
  exact this) (λb hb=>by
   simp only[Own.at,Option.some.injEq]at hb
   rw[World.size_alloc]
   omega)
 obtain⟨W1,ad⟩:∃W1,(w.alloc (.deferred (some []))).alloc (.loop (rec .ready none))=W1:=⟨_,rfl⟩
 rw[ad]at HR
 refine⟨w.heap.size+1,[{ target:=.collected w.heap.size,args:=#[] }],W1,{ target:=.fn (.func gf) cap,args:=#[.func (.yield (w.heap.size+1)) #[] #[]] },W1,gf,
  #[.func (.yield (w.heap.size+1)) #[] #[]]++cap,W1,?_,?_,?_,?_,(λhd=>nomatch hd),?_⟩
 · rw[<-ad,G]
   exact run_enterLoop_outer _ _ _ _ _
 · simp only[resolve,h.ev hg]
   simp[go_sem]
 · intro f' b5
   trivial
 ·simp[invoke,go_sem,eg]
 · have a8:=hit (w.heap.size+1) (λE W A=>∃Y Zr hl',J w.heap.size W Y hl'/\Y.sub Zr/\E.sub Zr/\HZ w0 Zi Zr (hl'++[.blk (w.heap.size+1) (.loop (rec .ready none))]) A)
    (λE s A ⟨_,_,_,_,_,hE,HA⟩ b o hb=>HA.zin b o (hE b o hb))
    (λE E' s A B ⟨Y,Zr,hl',hJ,h1,hE,HA⟩ X hn=>by
     obtain⟨Z',k1,k2,HB⟩:=HA.more hE X hn
     exact⟨Y,Z',hl',hJ,h1.trans k1,k2,HB⟩)
    (λE W x A ⟨Y,Zr,hl',hJ,h1,hE,HA⟩ b2=>by
     have hl:=HA.last
     have hy:=run_yield (P:=P) (args:=#[enc x]) hl (by rw[G];rfl)
     rw[G]at hy
     refine⟨fn,_,assign,body,hy,roundIn_of_wpIn b0 ?_⟩
     have b6:p<N:=by simpa[Nat.blt_eq]using hp
     have b3:Fr N ((p,enc x)::l) { tmps:=(#[p].zip #[enc x]).foldl (λt q=>t.setIfInBounds q.1 q.2) a.tmps,defers:=[] }:=by
      have h1:Fr N l { tmps:=a.tmps,defers:=[] }:=⟨h.size,rfl,h.has⟩
      have h2:=h1.put hp (enc x)
      simpa[Act.put]using h2
     refine wpIn_mono (round w.heap.size (w.heap.size+1) _ W x Y Zr hl' _ A b2 hJ h1 HA.own b3) ?_
     intro e a1 A1 hq
     cases e with
     |normal=>
      obtain⟨hR,hb⟩:=hq
      refine⟨_,run_beginRound hR (by rw[G]),wpIn_mono (hb _) ?_⟩
      intro e a2 B hq
      cases e with
      |normal=>
       obtain⟨Z2,hl2,b4,H2⟩:=hq
       have ao:=H2.last
       have:=run_endRound (P:=P) none ao
       refine⟨_,_,this,O,Z2,Z2,hl2,b4,FZ.sub.refl _,hE.trans H2.sub,?_⟩
       have H3:=(HA.base H2).wl (.loop (rec .ready none))
       rw[G]at H3⊢
       exact H3
      |_=>exact hq.elim
     |_=>exact hq.elim)
    (Z.add w.heap.size (.deferred (some []))) W1 a6 ⟨_,_,hl,h0 _ _ a6 dz,FZ.sub.refl _,FZ.sub.refl _,HR⟩
   refine a8.mono ?_
   rintro e B ⟨⟨v,rfl⟩,E',Y,Zr,hl',hJ,h1,hE,HB⟩
   have:=run_endLoop (P:=P) HB.last (by rw[G];simp)
   rw[G]at this
   exact⟨none,_,this,done _ Y Zr hl' _ _ _ _ hJ h1 (HB.wl _) ⟨h.size,by show _::a.defers=_;rw[h.defers];rfl,h.has⟩⟩
end
section
variable {P:Program}{K:Act->World->Prop}{a:Act}{w:World}{F:Fence}{n:Nat}
theorem zF{id:Nat}{x:Code}(h:x.wpIn F n P (fm K) a w):(Code.block id x).wpIn F n P (fm K) a w:=
 wpIn_block (wpIn_mono h λe a w E=>by
  cases e with
  |normal=>exact E
  |_=>exact E.elim)
theorem xN{R E id:Nat}{ol:List Oper}(h:wpList P ol.toArray (fm K) ol a w) (hp:ol.toArray.all iY=true:=by kernel_rfl):(Code.region id ol.toArray false).wpIn (Fence.wide.inRound R) E P (fm K) a w:=qY R hp h
theorem nR{ops:Array Oper}(h:K a w):wpList P ops (fm K) [] a w:=h
end
section
variable {P:Program}{ops:Array Oper}{Q:Exit->Act->World->Prop}{rest:List Oper}{o:Oper}{n:Nm}{d m:Nat}{l:List (Nat × Value)}{a:Act}{w:World}{V:Value}
theorem y1(h:Fr n l a) (hd:lf n.n o=some d) (G:cH P l w o V) (kk:∀E,Fr n ((d,V)::l) E->wpListIn Fence.wide m P ops Q rest E w):wpListIn Fence.wide m P ops Q (o::rest) a w:=by
 obtain⟨H,J,W⟩:=jI hd
 refine wpListIn_plain H λK X=>?_
 unfold Oper.wpIn
 rw[show Fence.wide.round=none from rfl,Oper.semAt_none,G n a h]
 refine⟨λ_ _=>trivial,X _ _ ?_⟩
 rw[J]
 exact kk _ (h.put W V)
theorem ER(h:Q .normal a w):wpListIn Fence.wide m P ops Q [] a w:=h
theorem DV{x:Operand}{xs:Array Operand}{ats:Array TypeId}{ty:TypeId}{pos:String}{af:Array Edge}{lo:Nat}{v:Value}{J:World->Prop}(h:Fr n l a) (X:ev l x=some (.func (.yield lo) #[] #[])) (hy:nI l xs.toList=some [v])
 (Y:YieldAt Fence.wide 0 P lo #[v] w λe B=>e=.returned (.bool true)/\J B) (kk:∀H w',J w'->Fr n ((d,.bool true)::l) H->wpListIn Fence.wide m P ops Q rest H w') (E:Nat.blt d n.n=true:=by rfl) :
 wpListIn Fence.wide m P ops Q (⟨some d,.call { callee:=.value x,args:=xs,argTypes:=ats },ty,pos,af,none⟩::rest) a w:=by
 obtain⟨fn,tmps,assign,body,hy1,W⟩:=Y
 refine wpListIn_plain O λK hK=>?_
 have e1:execOp a.eval ⟨some d,.call { callee:=.value x,args:=xs,argTypes:=ats },ty,pos,af,none⟩=(do let d <- Deferred.ofValue (a.eval x) (xs.map a.eval);invoke d.target d.args):=rfl
 have e3:((do let d <- Deferred.ofValue (a.eval x) (xs.map a.eval);invoke d.target d.args):Sem Next).run P w=.ok (.round lo fn tmps assign body) w:=by
  rw[h.ev X,h.wO hy]
  simp only[Deferred.ofValue,Sem.run_bind,Sem.run_pure,Result.andThen_ok,invoke]
  simpa using hy1
 unfold Oper.wpIn
 rw[show Fence.wide.round=none from rfl,Oper.semAt_none,e1,e3]
 refine⟨λ_ _=>trivial,(λhd=>nomatch hd),?_⟩
 have G:RoundIn Fence.wide (m-1) P lo fn tmps assign body w λe B=>e=.returned (.bool true)/\J B:=⟨W.1,λc cs _=>W.2 c cs (room_wide _)⟩
 refine G.mono ?_
 rintro e w' ⟨rfl,hJ⟩
 exact hK _ _ (kk _ w' hJ (h.put E _))
theorem E7{id:Nat}{ol:List Oper}{y:Code}(h:∀K:Act->World->Prop,(∀a w,y.wp P Q a w->K a w)->wpListIn Fence.wide 0 P ol.toArray (Exit.then K Q) ol a w):(Code.seq (.region id ol.toArray false) y).wp P Q a w:=
 wp_seq_k λK E=>(wpIn_wide (n:=0)).1 (wpIn_region_lit (h K E))
end
section
variable {σ α ρ:Type}
def gK(B:σ->α->Option σ):σ->List α->Option σ
 |s,[]=>some s
 |s,x::xs=>obind (B s x) λE=>gK B E xs
theorem oo{B:σ->α->Option σ}:∀{s:σ}{xs E:List α},gK B s (xs++E)=obind (gK B s xs) λG=>gK B G E
 |s,[],E=>rfl
 |s,x::xs,E=>by
  simp only[List.cons_append,gK]
  cases B s x with
  |none=>rfl
  |some G=>exact oo
theorem wU{B:σ->α->Option σ}{G s J:σ}{x:α}{E xs:List α}(W:gK B G xs=some J) (h:gK B G E=some s) (hp:E++[x] <+: xs):∃s1,B s x=some s1/\gK B G (E++[x])=some s1:=by
 obtain⟨t,rfl⟩:=hp
 rw[List.append_assoc,oo,h]at W
 obtain⟨s1,X,_⟩:=bo (show obind (B s x) (λH=>gK B H ([]++t))=some J from W)
 refine⟨s1,X,?_⟩
 rw[oo,h]
 show obind (B s x) (λH=>gK B H [])=some s1
 rw[X]
 rfl
theorem E3{B F:σ->α->Option ρ}{s:σ}{x:α}{r:ρ}(e:B=F) (h:B s x=some r):F s x=some r:=by rw[<-e];exact h
end
end Go.Stp
end
section
namespace Go.Stp
open Go.RowKit
section
variable {P:Program}{ops:Array Oper}
def jC(P:Program) (o:Oper) (a:Act) (w:World) (R:Value->World->Prop):Prop:=match(execOp a.eval o).run P w with
 |.ok (.value v) w'=>R v w'
 |.ok .skip w'=>R undef w'
 |.ok (.enter f args) w'=>Calls P f args w' (bj R)
 |.ok (.row r args) w'=>Rows P r args w' R
 |_=>False
def mq(P:Program) (ops:Array Oper) (o:Oper) (a:Act) (w:World) (R:Value->World->Prop):Prop:=
 (Region.wanted o (yielded ops a.tmps)=false/\R undef w)\/(Region.wanted o (yielded ops a.tmps)=true/\jC P o a w R)
theorem jC.wp{o:Oper}{a:Act}{w:World}{R:Value->World->Prop}{K:Act->World->Prop}{Q:Exit->Act->World->Prop}(h:jC P o a w R) (G:∀v w',R v w'->K (a.put o.dst v) w'):o.wp P a w K Q:=by
 unfold jC at h
 unfold Oper.wp
 generalize (execOp a.eval o).run P w=r at h⊢
 cases r with
 |ok x w'=>
  cases x with
  |value v=>exact G _ _ h
  |skip=>exact G _ _ h
  |enter f args=>exact Calls.mono (show Calls P f args _ (bj R)from h) (λe w' E=>match e,E with
   |.returned v,E=>G v w' E
   |.panicked _,E=>(show False from E).elim
   |.outgrown,E=>(show False from E).elim)
  |row r args=>exact(show Rows P r args _ _ from h).mono G
  |_=>exact h.elim
 |halt s w'=>exact h.elim
theorem jC.mono{o:Oper}{a:Act}{w:World}{R H:Value->World->Prop}(h:jC P o a w R) (G:∀v w',R v w'->H v w'):jC P o a w H:=by
 unfold jC at h⊢
 generalize (execOp a.eval o).run P w=r at h⊢
 cases r with
 |ok x w'=>
  cases x with
  |value v=>exact G _ _ h
  |skip=>exact G _ _ h
  |enter f args=>exact Calls.mono (show Calls P f args _ (bj R)from h) (λe w' E=>match e,E with
   |.returned v,E=>G v w' E
   |.panicked _,E=>(show False from E).elim
   |.outgrown,E=>(show False from E).elim)
  |row r args=>exact(show Rows P r args _ _ from h).mono G
  |_=>exact h.elim
 |halt s w'=>exact h.elim
theorem mq.mono{o:Oper}{a:Act}{w:World}{R H:Value->World->Prop}(h:mq P ops o a w R) (J:∀v w',R v w'->H v w'):mq P ops o a w H:=
 h.elim (λ⟨E,G⟩=>.inl ⟨E,J _ _ G⟩) λ⟨E,G⟩=>.inr ⟨E,G.mono J⟩
theorem mq.put{o:Oper}{u:Value}{a:Act}{w:World}{d:Option Tmp}{R:Value->World->Prop}(hs:∀cs b,o.op≠.select cs b) (h:∀e,d=some e->e ∉ o.looksAt ops):mq P ops o (a.put d u) w R<->mq P ops o a w R:=by
 unfold mq jC
 rw[wanted_put o a d u h,execOp_put o hs a d u h]
theorem R1.step{o:Oper}{v:Value}{a:Act}{w w':World}{R:Value->World->Prop}(h:R1 P ops o a w v w') (G:R v w'):mq P ops o a w R:=by
 rcases h with⟨E,rfl,rfl⟩|⟨E,H|⟨H,rfl⟩⟩
 ·exact .inl ⟨E,G⟩
 · refine .inr ⟨E,?_⟩
   unfold jC
   rw[H]
   exact G
 · refine .inr ⟨E,?_⟩
   unfold jC
   rw[H]
   exact G
def ji(P:Program) (ops:Array Oper) (kk:Nat) (C:World->Prop) (F:Act->World->Prop):Nat->Array Bool->Act->World->Prop
 |0,listed,a,w=>(listed.getD kk true=false->C w)/\Region.ready .any ops listed=[]/\F a w
 |f+1,listed,a,w=>(listed.getD kk true=false->C w)/\(Region.ready .any ops listed=[]->F a w)/\
  ∀i∈Region.ready .any ops listed,∃o,ops[i]?=some o/\mq P ops o a w (λv w'=>ji P ops kk C F f (listed.setIfInBounds i true) (a.put o.dst v) w')
variable {kk:Nat}{C:World->Prop}{F:Act->World->Prop}
theorem ji.c{f:Nat}{listed:Array Bool}{a:Act}{w:World}(h:ji P ops kk C F f listed a w):listed.getD kk true=false->C w:=by
 cases f<;>exact h.1
theorem fV{Q:Exit->Act->World->Prop}:∀(f:Nat) (listed:Array Bool) (a:Act) (w:World),ji P ops kk C (λa w=>Q .normal a w) f listed a w->wpAny P .any ops Q f listed a w
 |0,_,_,_,h=>h.2
 |f+1,listed,a,w,h=>⟨h.2.1,λi hi=>by
  obtain⟨o,H,E⟩:=h.2.2 i hi
  unfold wpOp
  simp only[H]
  rcases E with⟨G,E⟩|⟨G,E⟩
  · rw[if_neg (by rw[G];exact Bool.false_ne_true)]
    exact fV f _ _ _ E
  · rw[if_pos G]
    left
    exact E.wp λv w' h=>fV f _ _ _ h⟩
def EF(ops:Array Oper) (listed:Array Bool) (i kk:Nat) (U:List Nat):Bool:=U.contains kk&&!Nat.beq i kk&&!U.contains i&&U.all λu=>!listed.getD u true&&match ops[u]? with
 |none=>false
 |some o=>o.after.any λe=>Region.binds .any e&&(Nat.beq e.on i||U.contains e.on)
theorem Cy{listed:Array Bool}{i:Nat}{U:List Nat}(h:EF ops listed i kk U=true):kk∈U/\i≠kk/\(∀u∈U,listed.getD u true=false)/\∀u∈U,∀o,ops[u]?=some o->∃e∈o.after,Region.binds .any e=true/\(e.on=i\/e.on∈U):=by
 simp only[EF,Bool.and_eq_true,Bool.not_eq_true']at h
 obtain⟨⟨⟨X,J⟩,h3⟩,W⟩:=h
 refine⟨List.contains_iff_mem.1 X,λe=>?_,λu E=>?_,λu E o Y=>?_⟩
 ·subst e;rw[Nat.beq_refl]at J;cases J
 · have:=List.all_eq_true.1 W u E
   simp only[Bool.and_eq_true,Bool.not_eq_true']at this
   exact this.1
 · have:=List.all_eq_true.1 W u E
   rw[Y]at this
   simp only[Bool.and_eq_true]at this
   obtain⟨e,G,H⟩:=Array.any_eq_true.1 this.2
   simp only[Bool.and_eq_true,Bool.or_eq_true]at H
   refine⟨o.after[e],Array.getElem_mem G,H.1,H.2.imp (λq=>Nat.eq_of_beq_eq_true q) (λq=>List.contains_iff_mem.1 q)⟩
theorem uW{i:Nat}{oi:Oper}{v:Value}{U:List Nat}(hi:ops[i]?=some oi) (a6:∀(j:Nat) (o:Oper) cs b,ops[j]?=some o->o.op≠.select cs b)
 (b0:kk∈U) (b1:i≠kk) (hU:∀u∈U,∀o,ops[u]?=some o->∃e∈o.after,Region.binds .any e=true/\(e.on=i\/e.on∈U)) :
 ∀(f:Nat) (listed:Array Bool) (a:Act) (w:World),
  (∀j oj,ops[j]?=some oj->j≠i->listed.getD j true=false->(∀e∈oj.after,Region.binds .any e=true->e.on≠i)->oi.apart ops oj=true)->
  i∈Region.ready .any ops listed->(∀u∈U,listed.getD u true=false)->(∀w,C w->R1 P ops oi a w v w)->
  ji P ops kk C F f (listed.setIfInBounds i true) (a.put oi.dst v) w->ji P ops kk C F (f+1) listed a w:=by
 have X:∀{f:Nat}{listed:Array Bool}{a:Act}{w:World},(∀u∈U,listed.getD u true=false)->ji P ops kk C F f (listed.setIfInBounds i true) a w->C w:=λhl H=>H.c (by rw[getD_set_ne true b1];exact hl kk b0)
 intro f
 induction f with
 |zero=>
  intro listed a w _ hr hl hy H
  refine⟨λ_=>X hl H,λh=>(by rw[h]at hr;cases hr),λj hj=>?_⟩
  by_cases E:j=i
  ·subst E;exact⟨oi,hi,(hy w (X hl H)).step H⟩
  · have:=ready_mono hj E
    rw[H.2.1]at this
    cases this
 |succ f ih=>
  intro listed a w G hr hl hy H
  have J:=(mem_ready.1 hr).1
  refine⟨λ_=>X hl H,λh=>(by rw[h]at hr;cases hr),λj hj=>?_⟩
  by_cases E:j=i
  ·subst E;exact⟨oi,hi,(hy w (X hl H)).step H⟩
  · obtain⟨o,ho,b2⟩:=H.2.2 j (ready_mono hj E)
    obtain⟨a7,oj,W,a8⟩:=mem_ready.1 hj
    obtain rfl:oj=o:=Option.some.inj (W.symm.trans ho)
    have ad:∀e∈oj.after,Region.binds .any e=true->e.on≠i:=λe he hb b3=>by
     have Y:=a8 e he hb
     rw[b3,getD_both J]at Y
     cases Y
    have b4:j ∉ U:=λhm=>by
     obtain⟨e,he,hb,b5⟩:=hU j hm oj W
     have Y:=a8 e he hb
     rcases b5 with q|q
     ·rw[q,getD_both J]at Y;cases Y
     ·rw[getD_both (hl _ q)]at Y;cases Y
    obtain⟨Y,h2,h3⟩:=Oper.apart_spec (G j oj W E a7 ad)
    have a1:∀k ok,ops[k]?=some ok->k≠i->(listed.setIfInBounds j true).getD k true=false->
     (∀e∈ok.after,Region.binds .any e=true->e.on≠i)->oi.apart ops ok=true:=λk ok hk b6 J b7=>by
     refine G k ok hk b6 ?_ b7
     by_cases ao:j=k
     ·subst ao;exact a7
     ·rw[getD_set_ne true ao]at J;exact J
    refine⟨oj,W,((mq.put (a6 j oj · · W) Y).1 b2).mono λv' w' hK=>ih (listed.setIfInBounds j true) _ w' a1 (ready_mono hr (Ne.symm E)) (λu hu=>by rw[getD_set_ne true (λe:j=u=>b4 (e▸hu))];exact hl u hu) (λw hw=>(R1.put (a6 i oi · · hi) h3).2 (hy w hw)) ?_⟩
    rw[Array.setIfInBounds_comm _ _ E,<- Act.put_comm a v v' h2]
    exact hK
variable {n:Nm}{d:Nat}{l:List (Nat × Value)}{a:Act}{w:World}{V:Value}{o:Oper}
theorem cl{f:Nat}{oi:Oper}{listed E:Array Bool}(i:Nat) (U:List Nat) (h:Fr n l a) (hi:ops[i]?=some oi) (X:∀w,C w->cH P l w oi V) (J:(ss ops listed i&&EF ops listed i kk U)=true)
 (hl:listed.setIfInBounds i true=E) (k:∀W,Fr n ((d,V)::l) W->ji P ops kk C F f E W w) (Y:oi.guard=none:=by rfl) (hd:oi.dst=some d:=by rfl) (H:Nat.blt d n.n=true:=by rfl):ji P ops kk C F (f+1) listed a w:=by
 simp only[ss,Bool.and_eq_true]at J
 obtain⟨⟨⟨G,hr⟩,hf⟩,hu⟩:=J
 obtain⟨u1,u2,u3,u4⟩:=Cy hu
 subst hl
 refine uW hi (Region.noSelect_spec G) u1 u2 u4 f listed a w (Region.free_spec hi hf) (by simpa using hr) u3 (λw hw=>.inr ⟨bE Y,.inl (X w hw n a h)⟩) ?_
 rw[hd]
 exact k _ (h.put H V)
theorem zd{f i:Nat}{R:Value->World->Prop}{listed E:Array Bool}(G:Region.ready .any ops listed=[i]) (hi:ops[i]?=some o) (H:listed.getD kk true=false->C w) (J:o.guard=none) (W:jC P o a w R) (hl:listed.setIfInBounds i true=E)
 (k:∀v w',R v w'->ji P ops kk C F f E (a.put o.dst v) w'):ji P ops kk C F (f+1) listed a w:=by
 subst hl
 refine⟨H,λh=>absurd h (by rw[G];simp),λj hj=>?_⟩
 rw[G]at hj
 obtain rfl:j=i:=by simpa using hj
 exact⟨o,hi,.inr ⟨bE J,W.mono k⟩⟩
theorem oI{f:Nat}{R:Value->World->Prop}{listed E:Array Bool}(i:Nat) (h:Fr n l a) (hi:ops[i]?=some o) (J:Region.ready .any ops listed=[i]) (W:listed.getD kk true=false->C w) (X:jC P o a w R) (hl:listed.setIfInBounds i true=E)
 (k:∀v w' H,R v w'->Fr n ((d,v)::l) H->ji P ops kk C F f E H w') (Y:o.guard=none:=by rfl) (hd:o.dst=some d:=by rfl) (G:Nat.blt d n.n=true:=by rfl):ji P ops kk C F (f+1) listed a w:=
 zd J hi W Y X hl λv w' hv=>by rw[hd];exact k v w' _ hv (h.put G v)
theorem pm{f:Nat}{R:Value->World->Prop}{listed E:Array Bool}(i:Nat) (h:Fr n l a) (hi:ops[i]?=some o) (H:Region.ready .any ops listed=[i]) (J:listed.getD kk true=false->C w) (W:jC P o a w R) (hl:listed.setIfInBounds i true=E)
 (k:∀v w' G,R v w'->Fr n l G->ji P ops kk C F f E G w') (X:o.guard=none:=by rfl) (hd:o.dst=none:=by rfl):ji P ops kk C F (f+1) listed a w:=
 zd H hi J X W hl λv w' Y=>by rw[hd];exact k v w' _ Y h
theorem pq{f:Nat}{listed:Array Bool}(E:listed.getD kk true=false->C w) (G:Region.ready .any ops listed=[]) (k:F a w):ji P ops kk C F f listed a w:=by
 cases f with
 |zero=>exact⟨E,G,k⟩
 |succ f=>exact⟨E,λ_=>k,λi hi=>by rw[G]at hi;cases hi⟩
theorem dt.goes{R:Value->World->Prop}(h:Fr n l a) (X:dt P l w o R) (hd:o.dst=some d:=by rfl) (hdn:Nat.blt d n.n=true:=by rfl):jC P o a w R:=by
 have G:=X n a h (λY w'=>∃v,Y=a.put (some d) v/\R v w') (λ_ _ _=>False) (λv w' E=>⟨v,by rw[hd],E⟩)
 have J:d<a.tmps.size:=by rw[h.size];simpa[Nat.blt_eq]using hdn
 have inj:∀v H:Value,a.put (some d) v=a.put (some d) H->v=H:=λv H e=>by
  have:=congrArg (λb:Act=>b.tmps.getD d undef) e
  simpa only[fW J]using this
 unfold Oper.wp Oper.upon at G
 unfold jC
 rw[hd]at G
 generalize (execOp a.eval o).run P w=r at G⊢
 cases r with
 |ok x w'=>
  cases x with
  |value v=>
   obtain⟨H,e,E⟩:=G
   exact(inj _ _ e).symm▸E
  |skip=>
   obtain⟨H,e,E⟩:=G
   exact(inj _ _ e).symm▸E
  |defer dd=>
   obtain⟨H,e,E⟩:=G
   have:=congrArg (λb:Act=>b.defers.length) e
   simp[Act.put]at this
  |enter f args=>exact Calls.mono (show Calls P f args _ _ from G) (λe W E=>by
   cases e with
   |returned v=>
    obtain⟨H,e,E⟩:=E
    exact(inj _ _ e).symm▸E
   |panicked ch=>exact(show False from E)
   |outgrown=>obtain⟨_,_,hf⟩:=(show LetsOut _ from E);exact hf)
  |row r args=>exact(show Rows P r args _ _ from G).mono (λv W E=>by
   obtain⟨H,e,E⟩:=E
   exact(inj _ _ e).symm▸E)
  |_=>exact G.elim
 |halt s w'=>
  cases s with
  |panic v=>exact(show False from G)
  |_=>exact G.elim
theorem R1.goes{v:Value}{w':World}(h:R1 P ops o a w v w') (J:o.guard=none:=by rfl):jC P o a w (λW E=>W=v/\E=w'):=by
 rcases h with⟨H,_,_⟩|⟨_,G|⟨G,rfl⟩⟩
 ·rw[bE J]at H;cases H
 ·unfold jC;rw[G];exact⟨O,O⟩
 ·unfold jC;rw[G];exact⟨O,O⟩
end
section
variable {P:Program}{n:Nm}{l:List (Nat × Value)}{a:Act}{w w':World}{w0:Bs}{Zi Z Z':FZ}{hl:List Own}{Q:Exit->Act->World->Prop}{K:Act->World->Prop}
theorem HZ.tJ(H:HZ w0 Zi Z' hl w) (h:Z.sub Z') (hi:Zi.sub Z):HZ w0 Zi Z hl w:=
 ⟨H.hp,λb o E=>H.zin b o (h b o E),(λo G b E=>by
  cases hz:Z b with
  |none=>rfl
  |some ob=>
   have:=h b ob hz
   rw[H.off o G b E]at this
   cases this),hi,λb o E=>H.new b o (h b o E)⟩
theorem HZ.bD{w1:World}{p:Nat}{o:Obj}(H:HZ w0 Zi Z hl w) (eB:w0=⟨w1,[p]⟩) (i:Nat) (hi:hl[i]?=some (.blk p o)):Z.sub (ZB Zi w1.heap.size w):=λb ob E=>by
 unfold ZB
 split
 ·exact H.zin b ob E
 · rename_i G
   rcases H.new b ob E with h|h|h
   ·exact h
   ·subst eB;exact absurd h G
   · subst eB
     obtain rfl:b=p:=by simpa using h
     have:=H.off _ (List.mem_of_getElem? hi) b rfl
     rw[E]at this
     cases this
theorem ww{id:Nat}{ol:List Oper}(i kk:Nat) (H:HZ w0 Zi Z hl w)
 (h:∀w,HZ w0 Zi Z hl w->ji P ol.toArray kk (HZ w0 Zi Z (hl.set i dead)) (λa w=>Q .normal a w) ol.toArray.size (Array.replicate ol.toArray.size false) a w) (E:P.follows .mixedOrders=true:=by kernel_rfl):(Code.region id ol.toArray true).wp P Q a w:=
 wp_region_any E (fV _ _ _ _ (h _ (H.ext (Ext.drew w))))
theorem wJ{id:Nat}{ol:List Oper}{y:Code}(i kk:Nat) (H:HZ w0 Zi Z hl w)
 (h:∀K:Act->World->Prop,(∀a w,y.wp P Q a w->K a w)->∀w,HZ w0 Zi Z hl w->ji P ol.toArray kk (HZ w0 Zi Z (hl.set i dead)) K ol.toArray.size (Array.replicate ol.toArray.size false) a w) (E:P.follows .mixedOrders=true:=by kernel_rfl):(Code.seq (.region id ol.toArray true) y).wp P Q a w:=
 wp_seq_k λK G=>wp_region_any E (fV (Q:=Exit.then K Q) _ _ _ _ (h K G _ (H.ext (Ext.drew w))))
theorem A7{R E id:Nat}{ol:List Oper}(i kk:Nat) (H:HZ w0 Zi Z hl w)
 (h:∀w,HZ w0 Zi Z hl w->ji P ol.toArray kk (HZ w0 Zi Z (hl.set i dead)) K ol.toArray.size (Array.replicate ol.toArray.size false) a w) (G:P.follows .mixedOrders=true:=by kernel_rfl) (hp:ol.toArray.all iY=true:=by kernel_rfl):(Code.region id ol.toArray true).wpIn (Fence.wide.inRound R) E P (fm K) a w:=
 sN R G hp (fV (Q:=fm K) _ _ _ _ (h _ (H.ext (Ext.drew w))))
variable {ops:Array Oper}{x y:Operand}{t ty e:TypeId}{pos:String}{af:Array Edge}{b off:Nat}{cs:List Value}{u:Value}
theorem uB(h:Fr n l a) (H:HZ w0 Zi Z hl w) (i:Nat) (hs:∀w,(sizeOf t).run P w=.ok 1 w) (Y:u.cells.toList=[u]) (h1:u.oneCell'=true)
 (hx:ev l x=some (.pointer (some ⟨b,off,none⟩)):=by rfl) (hy:ev l y=some u:=by rfl) (hi:hl[i]?=some (.blk b (aB cs e)):=by rfl) (G:off<cs.length:=by simp) :
 jC P ⟨none,.store t x y,ty,pos,af,none⟩ a w (λ_ w'=>HZ w0 Zi Z (hl.set i (.blk b (aB (cs.set off u) e))) w'):=by
 obtain⟨w',hR,hh,r1,r2,r3,r4,r5⟩:=lv (P:=P) (ops:=#[]) (ty:=ty) (pos:=pos) (af:=af) h rfl hx hy Y h1 hs (H.hp.get i hi) G
 refine(R1.goes hR O).mono ?_
 rintro v J ⟨rfl,rfl⟩
 have E:∀c,c<w.heap.size->(Own.blk b (aB cs e)).at≠some c->J.heap[c]?=w.heap[c]?:=λc _ W=>r5 c λq=>W (by rw[q];rfl)
 exact H.turn i hi (H.hp.turn i hi (.blk b (aB (cs.set off u) e)) hh r1 r2 r3 (by omega) E (λc X=>.inl X)) E (λc X=>.inl X)
theorem ut{α:Type}{enc:α->List Value}{sz len kk f dn:Nat}{C:World->Prop}{F:Act->World->Prop}{listed E:Array Bool}(data:List α) (i:Nat) (h:Fr n l a) (H:HZ w0 Zi Z hl w){W:Array (Nat × Operand)}(hi:ops[i]?=some ⟨some dn,.buildSlice t len W,ty,pos,af,none⟩) (hr:Region.ready .any ops listed=[i]) (hC:listed.getD kk true=false->C w) (hl':listed.setIfInBounds i true=E)
 (ht:P.underlying t=some (.slice e)) (hs:∀w,(sizeOf e).run P w=.ok sz w){z:Value}(hz:∀w,(zeroValue e).run P w=.ok z w) (X:(Nat.ble 1 (len*sz)&&Nat.ble (len*sz) 1000)=true)
 {zl:List Value}(Y:(Array.range (len*sz)).map (λi=>z.cells[i % z.cells.size]!)=zl.toArray){pl:List (Nat × Nat)}(hp:∀i p,pl.toArray[i]?=some p->p=(i*sz,sz))
 (us:List Value) (cells:List Value) (a1:nI l (W.toList.map (·.2))=some us) (hf:me pl zl ((W.toList.map (·.1)).zip us)=some cells) (G:data.length=len) (a6:data.flatMap enc=cells)
 (a7:∀J v Z' w',Z.sub Z'->HZ w0 Zi Z' hl w'->bx Z' v sz enc data->Fr n ((dn,v)::l) J->ji P ops kk C F f E J w')
 (hd:Nat.blt dn n.n=true:=by rfl):ji P ops kk C F (f+1) listed a w:=by
 refine oI i h hi hr hC (dt.goes h (pc (w:=w) ht hs hz X Y hp us cells a1 hf) O hd) hl' ?_ O O hd
 rintro v w' J ⟨rfl,rfl⟩ h'
 have hb:(w.alloc (aB cells e)).heap[w.heap.size]?=some (aB cells e):=heap_alloc_new w _
 subst G
 exact a7 J _ _ _ (FZ.jM (H.Cd (Nat.le_refl _))) (H.freeze (Ext.alloc w _) hb (Nat.le_refl _)) (bx.add a6 (Nat.le_refl _)) h'
theorem ro{α:Type}{enc:α->List Value}{sz bytes kk f dn:Nat}{C:World->Prop}{F:Act->World->Prop}{listed E:Array Bool}{out data:List α}{sv yv:Value}(i:Nat) (h:Fr n l a) (H:HZ w0 Zi Z hl w) (j:Nat) (ho:ops[i]?=some ⟨some dn,.call { callee:=.builtin .append,args:=#[x,y],argTypes:=#[t,t] },ty,pos,af,none⟩) (hr:Region.ready .any ops listed=[i]) (hC:listed.getD kk true=false->C w) (hl':listed.setIfInBounds i true=E)
 (hi:hl[j]?=some (.row e sz sv out.length (out.flatMap enc))) (ht:P.underlying t=some (.slice e))
 (G:(P.info? e).map (λi=>(i.zero.map (·.cells.size),i.size,i.bytes))=some (some sz,sz,bytes)) (Y:Nat.ble 1 sz=true) (hx:ev l x=some sv) (hy:ev l y=some yv) (a1:bx Z yv sz enc data)
 (J:∀a,(enc a).length=sz) (h1:∀a∈data,allOne (enc a)=true) (W:out.length+data.length<=9223372036854775807/\(out.length+data.length)*bytes<=140737488355328)
 (a6:∀X v' w',HZ w0 Zi Z (hl.set j (.row e sz v' (out++data).length ((out++data).flatMap enc))) w'->Fr n ((dn,v')::l) X->ji P ops kk C F f E X w')
 (hd:Nat.blt dn n.n=true:=by rfl):ji P ops kk C F (f+1) listed a w:=by
 obtain⟨v',w',hR,HH⟩:=DQ (ops:=ops) (dn:=dn) (ty:=ty) (pos:=pos) (af:=af) (t2:=t) (e2:=e) h H j hi rfl ht ht G Y hx hy a1 J h1 W
 refine oI i h ho hr hC (R1.goes hR O) hl' ?_ O O hd
 rintro v a7 X ⟨rfl,rfl⟩ h'
 exact a6 X _ _ HH h'
theorem gD{o:Oper}{R:World->Prop}(h:wpList P ops (fm λH w'=>H=a/\R w') [o] a w) (X:o.guard=none:=by rfl):jC P o a w (λ_ w'=>R w'):=by
 have E:o.wp P a w (λH w'=>H=a/\R w') (fm λH w'=>H=a/\R w'):=by
  have G:=h
  unfold wpList at G
  rw[if_pos (bE X)]at G
  rcases G with G|⟨_,G⟩
  ·exact G
  ·exact absurd G mQ
 unfold Oper.wp Oper.upon at E
 unfold jC
 generalize (execOp a.eval o).run P w=r at E⊢
 cases r with
 |ok x w'=>
  cases x with
  |value v=>exact E.2
  |skip=>exact E.2
  |defer Y=>
   obtain⟨he,_⟩:=(show({ tmps:=a.tmps,defers:=Y::a.defers }:Act).put o.dst undef=a/\R w' from E)
   have:=congrArg (λb:Act=>b.defers.length) he
   cases hd:o.dst<;>simp[Act.put,hd]at this
  |enter f args=>exact Calls.mono (show Calls P f args _ _ from E) (λe W J=>by
   cases e with
   |returned v=>exact J.2
   |panicked ch=>exact(show False from J)
   |outgrown=>obtain⟨_,_,hf⟩:=(show LetsOut _ from J);exact hf)
  |row r args=>exact(show Rows P r args _ _ from E).mono (λv W J=>J.2)
  |_=>exact E.elim
 |halt s w'=>
  cases s with
  |panic v=>exact(show False from E)
  |_=>exact E.elim
end
end Go.Stp
end
section
namespace Go.Stp
open Go.RowKit
section
variable {P:Program}{ops:Array Oper}{Q:Exit->Act->World->Prop}{rest:List Oper}{nm:Nm}{n:Nat}{l l':List (Nat × Value)}{a:Act}{w:World}{R:Value->World->Prop}{fn:Func}{x:Operand}{ats:Array TypeId}{t ty:TypeId}{pos:String}{af:Array Edge}{f:FuncId}{cp:Array Value}
theorem qg(h:Out P fn R a w):Leaves P fn a.tmps (bj R) a.defers .returning w:=by
 obtain⟨E,v,G,H⟩:=h
 rw[E]
 exact⟨v,G,H⟩
theorem E6(hd:∀a w,Leaves P fn a.tmps (bj R) a.defers .returning w->Q .ret a w):∀a w,Out P fn R a w->Q .ret a w:=λa w h=>hd a w (qg h)
theorem Eu{Z:FZ}{c:Code}{E:List Value}(H:Z.inn w) (J:P.funcs[f]?=some fn) (is:List Nat) (l':List (Nat × Value))
 (h:∀Q a Zi,Zi=Z->HZ w Zi Z [] w->Fr n l' a->(∀a w,Leaves P fn a.tmps (bj R) a.defers .returning w->Q .ret a w)->c.wp P Q a w) (W:fn.body=some c:=by rfl) (X:fn.ntmps=n:=by rfl) (G:Nat.ble E.length n=true:=by rfl) (e:kn (lK 0 E) is=l':=by rfl):Calls P f E.toArray w (bj R):=by
 refine calls_of_wp_defers J W ?_
 rw[X]
 exact h _ _ _ O (HZ.uO H) ((Fr.enter n E G).only is e) (λa w h=>h)
theorem yJ(h:Fr nm l a) (G:ev l x=some (.func (.func f) #[] cp)) (kk:∀E,Fr ⟨nm.n,⟨.fn (.func f) cp,#[]⟩::nm.ds⟩ l E->wpList P ops Q rest E w) :
 wpList P ops Q (⟨none,.defer ⟨.value x,#[],#[]⟩,ty,pos,af,none⟩::rest) a w:=by
 refine wpList_plain O λK H=>?_
 have e:(execOp a.eval ⟨none,.defer ⟨.value x,#[],#[]⟩,ty,pos,af,none⟩).run P w=.ok (.defer ⟨.fn (.func f) cp,#[]⟩) w:=by
  simp only[execOp,resolve,h.ev G]
  simp[Deferred.ofValue]
 unfold Oper.wp
 rw[e]
 exact H _ _ (kk _ ⟨h.size,by show _::a.defers=_;rw[h.defers],h.has⟩)
theorem rD(E:∀a w,Leaves P fn a.tmps (bj R) a.defers .returning w->Q .ret a w) (h:Fr ⟨n,[⟨.fn (.func f) cp,#[]⟩]⟩ l a) (hi:∀w,(invoke (.fn (.func f) cp) #[]).run P w=.ok (.enter f cp) w)
 (H:CallsD P f cp .returning w λe G w'=>e=.returned (.tuple #[])/\G=.returning/\Ext w w') (k:∀a w',Ext w w'->Fr n l a->Out P fn R a w'):Code.ret.wp P Q a w:=by
 refine qe (E _ _ ?_)
 rw[h.defers]
 refine leaves_cons (by simp) (hi w) (H.mono ?_)
 rintro e G w' ⟨rfl,rfl,X⟩
 have:=qg (k { a with defers:=[] } w' X ⟨h.size,rfl,h.has⟩)
 exact this
end
end Go.Stp
end
section
namespace Go.Stp
open Go.RowKit
def zg(E:List (Nat × Obj)) (Z:FZ):Prop:=∀q∈E,Z q.1=some q.2
theorem zg.nil{Z:FZ}:zg [] Z:=λq E=>nomatch E
theorem zg.one{Z:FZ}{b:Nat}{o:Obj}(h:Z b=some o):zg [(b,o)] Z:=λq E=>by
 obtain rfl:q=(b,o):=List.mem_singleton.1 E
 exact h
theorem zg.get{Z:FZ}{b:Nat}{o:Obj}(h:zg [(b,o)] Z):Z b=some o:=h (b,o) (List.mem_singleton.2 rfl)
section
variable {P:Program}{l:List (Nat × Value)}{w:World}{Z:FZ}{x:Operand}{t ty e:TypeId}{pos:String}{af:Array Edge}{d:Option Nat}{g:Option (Nat × Bool)}{V:Value}{p:Int}
theorem nw{α:Type}{enc:α->List Value}{sz:Nat}{data:List α}{H:Operand}{W:IntKind}(E:∀a,(enc a).length=sz) (X:P.underlying t=some (.slice e)) (hs:∀w,(sizeOf e).run P w=.ok sz w) (Y:ev l x=some V) (h1:ev l H=some (.int W p)) (hr:bx Z V sz enc data)
 (hb:0<=p/\p<=(data.length:Int)/\(data.length:Int)<=(data.length:Int)):dt P l w ⟨d,.slice t x (some H) none none,ty,pos,af,g⟩ (λv w'=>bx Z v sz enc (fd data p data.length)/\w'=w):=λn a h K Q hk=>by
 obtain⟨V',G,J⟩:=pH (P:=P) (d:=d) (ty:=ty) (pos:=pos) (af:=af) (g:=g) (w:=w) E h X hs Y hr (lo:=some H) (hi:=none) ⟨W,h1⟩ rfl hb
 unfold Oper.wp
 rw[G]
 exact hk _ _ ⟨J,O⟩
theorem tu{f:FuncId}{E:Array Operand}(us:List Value) (G:nI l E.toList=some us):cH P l w ⟨d,.makeFunc (.func f) E #[],ty,pos,af,g⟩ (.func (.func f) us.toArray #[]):=λn a h=>by
 have H:execOp a.eval ⟨d,.makeFunc (.func f) E #[],ty,pos,af,g⟩=Instr.makeFunc (.func f) (E.map a.eval) ((#[]:Array Operand).map a.eval) >>= λv=>pure (.value v):=rfl
 rw[H,h.wO G]
 simp[Instr.makeFunc]
theorem vi{b:Nat}{cs:List Value}{data:List (List UInt8)}{fz:Nat × Nat}(E:ev l x=some (.pointer (some ⟨b,p.toNat,none⟩))) (G:∀w,(isAgg t).run P w=.ok false w) (H:w.heap[b]?=some (.cells cs.toArray e fz)) (hd:data.map S=cs) (hp:0<=p/\p<(data.length:Int)) :
 cH P l w ⟨d,.load t x,ty,pos,af,g⟩ (S (gel data p)):=by
 refine aE E G H ?_
 rw[<-hd,List.getElem?_map,ak hp]
 rfl
end
end Go.Stp
end
section
namespace Go.Stp
open Go.RowKit
section
variable {P:Program}{l:List (Nat × Value)}{w:World}{w0:Bs}{Zi Z:FZ}{hl:List Own}{x y:Operand}{t ty e:TypeId}{pos:String}{af:Array Edge}{d:Option Nat}{g:Option (Nat × Bool)}{n:Nm}{dn:Nat}{a:Act}{ops:Array Oper}{Q:Exit->Act->World->Prop}{rest:List Oper}
theorem wg(data:List (List UInt8)):(data.map λs=>(⟨[S s],rfl⟩:Cl 1)).flatMap Subtype.val=data.flatMap eS:=by
 induction data with
 |nil=>rfl
 |cons s r E=>rw[List.map_cons,List.flatMap_cons,List.flatMap_cons,E]
theorem Ax(k:Nat):(madeCells #[S []] (k*1)).toList=(List.replicate k ([]:List UInt8)).flatMap eS:=by
 rw[Nat.mul_one]
 have E:(List.replicate k ([]:List UInt8)).flatMap eS=List.replicate k (S []):=by
  induction k with
  |zero=>rfl
  |succ k G=>rw[List.replicate_succ,List.flatMap_cons,G];rfl
 rw[E]
 apply List.ext_getElem
 ·simp[madeCells]
 · intro i H J
   simp[madeCells,Nat.mod_one]
theorem BJ{k:Int}(h:Fr n l a) (H:HZ w0 Zi Z hl w) (ht:P.underlying t=some (.slice e)) (hi:(P.info? e).map (λi=>(i.zero.map (·.cells),i.size,i.bytes))=some (some #[S []],1,16)) (hx:ev l x=some (.int .i64 k)) (hy:ev l y=some (.int .i64 k)) (hd:Nat.blt dn n.n=true) (hk:0<=k/\k<=1000000)
 (kk:∀a' v w',Ext w w'->HZ w0 Zi Z (hl++[.row e 1 v (List.replicate k.toNat ([]:List UInt8)).length ((List.replicate k.toNat ([]:List UInt8)).flatMap eS)]) w'->Fr n ((dn,v)::l) a'->wpList P ops Q rest a' w') :
 wpList P ops Q (⟨some dn,.makeSlice t x y,ty,pos,af,none⟩::rest) a w:=by
 obtain⟨inf,G,E⟩:=Option.map_eq_some_iff.1 hi
 simp only[Prod.mk.injEq]at E
 obtain⟨hz,J,W⟩:=E
 obtain⟨z,X,Y⟩:=Option.map_eq_some_iff.1 hz
 obtain⟨m,rfl⟩:=Int.eq_ofNat_of_zero_le hk.1
 have hr:=run_make (P:=P) w t e inf z ht G X .i64 .i64 (m:Int) m (by omega) (Int.le_refl _) (by rw[W];omega) (by omega)
 rw[Int.toNat_natCast,J,Y]at hr
 refine wpList_plain O λK hK=>?_
 have e1:execOp a.eval ⟨some dn,.makeSlice t x y,ty,pos,af,none⟩=Instr.makeSlice t (a.eval x) (a.eval y) >>= λv=>pure (.value v):=rfl
 have e2:(execOp a.eval ⟨some dn,.makeSlice t x y,ty,pos,af,none⟩).run P w=.ok (.value (.slice (some ⟨w.heap.size,0,none⟩) m m)) (w.alloc (.cells (madeCells #[S []] (m*1)) e)):=by
  rw[e1,h.ev hx,h.ev hy]
  simp[hr]
 unfold Oper.wp
 rw[e2]
 refine hK _ _ (kk _ _ _ (Ext.alloc _ _) ?_ (h.put hd _))
 rw[Int.toNat_natCast]
 have ho:=World.ownsRow_lit (base:=0) (e:=e) (size:=1) w (madeCells #[S []] (m*1)) m (Nat.zero_le _) (by unfold maxLen;omega) (size_madeCells _ _)
 rw[Ax]at ho
 refine H.push (Ext.alloc _ _) _ ?_ (λb hb=>by simp only[Own.at,Value.ownBlock,Option.some.injEq]at hb;omega)
 show World.ownsRow _ 0 e 1 _ _ _
 rw[List.length_replicate]
 exact ho
theorem xV{data:List (List UInt8)}{s:List UInt8}{p:Int}{b cap:Nat}{G:Value}(h:Fr n l a) (H:HZ w0 Zi Z hl w) (i:Nat) (hi:hl[i]?=some (.row e 1 G data.length (data.flatMap eS))) (J:G=.slice (some ⟨b,0,none⟩) data.length cap) (hp:0<=p/\p<(data.length:Int))
 (X:ev l x=some (.pointer (some ⟨b,p.toNat*1,none⟩))) (hy:ev l y=some (S s)) (hs:∀w,(sizeOf t).run P w=.ok 1 w){hl':List Own}(hh:hl.set i (.row e 1 G (data.set p.toNat s).length ((data.set p.toNat s).flatMap eS))=hl') (kk:∀w',HZ w0 Zi Z hl' w'->wpList P ops Q rest a w') :
 wpList P ops Q (⟨none,.store t x y,ty,pos,af,none⟩::rest) a w:=by
 have E:(data.map λs=>(⟨[S s],rfl⟩:Cl 1)).length=data.length:=List.length_map _
 have W:p.toNat<data.length:=by omega
 refine tZ (css:=data.map λs=>⟨[S s],O⟩) (c:=⟨[S data[p.toNat]],O⟩) (c':=⟨[S s],O⟩) (j:=0) h H i (by rw[E,wg];exact hi) (by rw[E];exact J) p.toNat (by rw[List.getElem?_map,List.getElem?_eq_getElem W];rfl) X hy hs [S s] rfl rfl rfl (Nat.le_refl 1) rfl (by
  rw[<-List.map_set,wg,List.length_map]
  exact hh) kk
theorem zW{o:Option Int}{v:Value}{W:TypeId}(E:(∀tp p (w:World),(Op.equal t (.iface tp p) .nilIface).run P w=.ok false w)/\∀w:World,(Op.equal t .nilIface .nilIface).run P w=.ok true w)
 (X:ev l x=some v) (Y:(o.isNone=true/\∃tp p,v=.iface tp p)\/(o.isNone=false/\v=.nilIface)):cH P l w ⟨d,.binOp .neq t x (.const .nilIface) W,ty,pos,af,g⟩ (.bool o.isNone):=λm a h=>by
 rw[dx,h.ev X]
 have ec:a.eval (.const .nilIface)=.nilIface:=rfl
 rw[ec]
 rcases Y with⟨G,tp,p,rfl⟩|⟨G,rfl⟩
 · rw[G]
   have H:eqGuard .neq t x (.const .nilIface) (.iface tp p) .nilIface=pure ():=rfl
   have J:binOp .neq t (.iface tp p) .nilIface=(do pure (.bool (!(<- Op.equal t (.iface tp p) .nilIface)))):=rfl
   rw[H,J]
   simp[E.1 tp p w]
 · rw[G]
   have H:eqGuard .neq t x (.const .nilIface) .nilIface .nilIface=pure ():=by cases x<;>rfl
   have J:binOp .neq t .nilIface .nilIface=(do pure (.bool (!(<- Op.equal t .nilIface .nilIface)))):=rfl
   rw[H,J]
   simp[E.2 w]
theorem CU{p:Int}{k:Nat}(c:0<=p/\p<(k:Int)):0<k:=by omega
end
end Go.Stp
end
