/- Joined texts. -/
import Derived.Sort.OwnSorted
import Derived.Shelf.SlSortCmp.NoneTotal
import Derived.Test.YtnllbjchcfpmpaaGreatDoorML0
set_option linter.all false
section
namespace Go.Stp
open Go.RowKit
def StepS(P:Program) (o:Oper) (f:World->Prop) (a:Act) (w:World):Prop:=
 ∀(K:Act->World->Prop) (Q:Exit->Act->World->Prop),(∀w',f w'->K (a.put o.dst undef) w')->o.wp P a w K Q
def eR(P:Program) (ops:Array Oper) (C:World->Prop) (n:Nm) (F:List (Nat × RL)->(World->Prop)->Prop):List (Nat × RL)->(World->Prop)->List Oper->Prop
 |L,H,[]=>F L H
 |L,H,o::rest=>
  (∃d V,o.dst=some d/\d<n.n/\(∀a w,C w->a.tmps.size=n.n->a.defers=n.ds->FrOn (o.looksAt ops) L a w->StepF P ops o false (.eq V) a w)/\eR P ops C n F ((d,.eq V)::L) H rest)\/
  (∃f:World->Prop,o.dst=none/\o.guard=none/\(∀w w',Ext w w'->f w->f w')/\(∀w,f w->C w)/\(∀a w,H w->a.tmps.size=n.n->a.defers=n.ds->FrOn (o.looksAt ops) L a w->StepS P o f a w)/\eR P ops C n F L f rest)
theorem ls{P:Program}{ops:Array Oper}{C:World->Prop}{n:Nm}{F J:List (Nat × RL)->(World->Prop)->Prop}(h:∀L H,F L H->J L H):∀{W:List Oper}{L:List (Nat × RL)}{H:World->Prop},eR P ops C n F L H W->eR P ops C n J L H W
 |[],_,_,k=>h _ _ k
 |_::_,_,_,.inl ⟨d,V,f,u,E,k⟩=>.inl ⟨d,V,f,u,E,ls h k⟩
 |_::_,_,_,.inr ⟨X,f,u,E,Y,h5,k⟩=>.inr ⟨X,f,u,E,Y,h5,ls h k⟩
def yQ(ops:Array Oper):Bool:=
 (List.range ops.size).all λk=>match ops[k]? with
  |none=>false
  |some o=>(o.after.all λe=>!Region.binds .any e||Nat.blt e.on k) &&
   (List.range ops.size).all λj=>Nat.beq j k||match ops[j]? with
    |none=>false
    |some oj=>match oj.dst with
     |some f=>(match o.dst with|some d=>!Nat.beq f d|none=>true)&&(!(o.looksAt ops).contains f||(bif Nat.blt j k then Region.waitsFor .any ops k j else Region.waitsFor .any ops j k))
     |none=>match o.dst with
      |some _=>true
      |none=>!Nat.blt j k||Region.waitsFor .any ops k j||(List.range k).any λi=>Nat.blt j i&&match ops[i]? with|some oi=>oi.dst.isNone|none=>false
section
variable {P:Program}{ops:Array Oper}{n:Nm}
structure vm (ops:Array Oper):Prop where
 back:∀k o,ops[k]?=some o->∀e∈o.after,Region.binds .any e=true->e.on<k
 one:∀(j k:Nat) (oj ok:Oper) d,j≠k->ops[j]?=some oj->ops[k]?=some ok->oj.dst=some d->ok.dst≠some d
 dep:∀(j k:Nat) (oj o:Oper) d,j<k->ops[j]?=some oj->ops[k]?=some o->oj.dst=some d->d∈o.looksAt ops->Region.waitsFor .any ops k j=true
 anti:∀(j k:Nat) (oj o:Oper) d,k<j->ops[j]?=some oj->ops[k]?=some o->oj.dst=some d->d∈o.looksAt ops->Region.waitsFor .any ops j k=true
 chain:∀(j k:Nat) (oj o:Oper),j<k->ops[j]?=some oj->ops[k]?=some o->oj.dst=none->o.dst=none->Region.waitsFor .any ops k j=true\/∃i oi,j<i/\i<k/\ops[i]?=some oi/\oi.dst=none
theorem zC(h:yQ ops=true):vm ops:=by
 have lt:∀{k:Nat}{o:Oper},ops[k]?=some o->k<ops.size:=λh=>(Array.getElem?_eq_some_iff.1 h).1
 have bq:∀{j k:Nat},j≠k->Nat.beq j k=false:=λ{j k} f=>by
  cases hb:Nat.beq j k with
  |false=>rfl
  |true=>exact absurd (Nat.eq_of_beq_eq_true hb) f
 have W:∀(k:Nat) (o:Oper),ops[k]?=some o->(o.after.all λe=>!Region.binds .any e||Nat.blt e.on k)=true/\∀(j:Nat) (oj:Oper),ops[j]?=some oj->j≠k->
  (match oj.dst with
   |some dj=>(match o.dst with|some d=>!Nat.beq dj d|none=>true)&&(!(o.looksAt ops).contains dj||(bif Nat.blt j k then Region.waitsFor .any ops k j else Region.waitsFor .any ops j k))
   |none=>match o.dst with
    |some _=>true
    |none=>!Nat.blt j k||Region.waitsFor .any ops k j||(List.range k).any λi=>Nat.blt j i&&match ops[i]? with|some oi=>oi.dst.isNone|none=>false)=true:=by
  intro k o X
  have Y:=List.all_eq_true.1 h k (List.mem_range.2 (lt X))
  rw[X]at Y
  obtain⟨Y,h2⟩:=Bool.and_eq_true_iff.1 Y
  refine⟨Y,λj oj u f=>?_⟩
  have h3:=List.all_eq_true.1 h2 j (List.mem_range.2 (lt u))
  rw[bq f,u]at h3
  simpa using h3
 have ct:∀{o:Oper}{d:Nat},d∈o.looksAt ops->(o.looksAt ops).contains d=true:=λh=>List.contains_iff_mem.2 h
 refine⟨λk o X e he hb=>?_,λj k oj ok d f u E hd H=>?_,λj k oj o d hjk u E hd hm=>?_,λj k oj o d a1 u E hd hm=>?_,λj k oj o hjk u E hd H=>?_⟩
 · have:=Array.all_eq_true_iff_forall_mem.1 (W k o X).1 e he
   simpa[hb,Nat.blt_eq]using this
 · have h2:=(W k ok E).2 j oj u f
   rw[hd,H]at h2
   simp only[Bool.and_eq_true,Bool.not_eq_true']at h2
   have:=h2.1
   rw[Nat.beq_refl]at this
   cases this
 · have h2:=(W k o E).2 j oj u (by omega)
   rw[hd]at h2
   simp only[Bool.and_eq_true]at h2
   have h3:=h2.2
   rw[ct hm,show Nat.blt j k=true by simpa[Nat.blt_eq]using hjk]at h3
   simpa using h3
 · have h2:=(W k o E).2 j oj u (by omega)
   rw[hd]at h2
   simp only[Bool.and_eq_true]at h2
   have h3:=h2.2
   rw[ct hm,show Nat.blt j k=false by
    cases hb:Nat.blt j k with
    |false=>rfl
    |true=>exact absurd (by simpa[Nat.blt_eq]using hb) (by omega:¬j<k)]at h3
   simpa using h3
 · have h2:=(W k o E).2 j oj u (by omega)
   rw[hd,H]at h2
   rw[show Nat.blt j k=true by simpa[Nat.blt_eq]using hjk]at h2
   simp only[Bool.not_true,Bool.false_or,Bool.or_eq_true]at h2
   rcases h2 with h2|h2
   ·exact .inl h2
   · obtain⟨i,hi,h3⟩:=List.any_eq_true.1 h2
     obtain⟨h3,h4⟩:=Bool.and_eq_true_iff.1 h3
     cases J:ops[i]? with
     |none=>rw[J]at h4;cases h4
     |some oi=>
      rw[J]at h4
      exact .inr ⟨i,oi,by simpa[Nat.blt_eq]using h3,List.mem_range.1 hi,J,by simpa using h4⟩
def ctxL(L:List (Nat × RL)):List (Option (Nat × Value))->List (Nat × RL)
 |[]=>L
 |some (d,V)::T=>ctxL ((d,.eq V)::L) T
 |none::T=>ctxL L T
theorem kE:∀(T:List (Option (Nat × Value))) (L:List (Nat × RL)) (s:Nat) (r:RL),lookL (ctxL L T) s=some r->
 (∃(j:Nat) (V:Value),T[j]?=some (some (s,V))/\r=.eq V)\/((∀(j:Nat) d V,T[j]?=some (some (d,V))->d≠s)/\lookL L s=some r)
 |[],L,s,r,h=>.inr ⟨λj d V e=>by simp at e,h⟩
 |none::T,L,s,r,h=>by
  rcases kE T L s r h with⟨j,V,hj,E⟩|⟨H,f⟩
  ·exact .inl ⟨j+1,V,by simpa using hj,E⟩
  · refine .inr ⟨λj d V e=>?_,f⟩
    cases j with
    |zero=>simp at e
    |succ j=>exact H j d V (by simpa using e)
 |some (d,J)::T,L,s,r,h=>by
  rcases kE T _ s r h with⟨j,V,hj,E⟩|⟨H,f⟩
  ·exact .inl ⟨j+1,V,by simpa using hj,E⟩
  · simp only[lookL]at f
    cases u:Nat.beq d s with
    |true=>
     rw[u]at f
     simp only[cond_true,Option.some.injEq]at f
     have:=Nat.eq_of_beq_eq_true u
     subst this
     exact .inl ⟨0,J,by simp,f.symm⟩
    |false=>
     rw[u]at f
     refine .inr ⟨λj d' V e=>?_,f⟩
     cases j with
     |zero=>
      simp only[List.getElem?_cons_zero,Option.some.injEq,Prod.mk.injEq]at e
      obtain⟨rfl,_⟩:=e
      intro W
      subst W
      rw[Nat.beq_refl]at u
      cases u
     |succ j=>exact H j d' V (by simpa using e)
structure Told (P:Program) (ops:Array Oper) (C:World->Prop) (n:Nm) (L:List (Nat × RL)) (T:List (Option (Nat × Value))) (hs:Nat->World->Prop) (k:Nat) (o:Oper):Prop where
 way:(∃d V,T[k]?=some (some (d,V))/\o.dst=some d/\d<n.n/\hs (k+1)=hs k/\∀a w,C w->a.tmps.size=n.n->a.defers=n.ds->FrOn (o.looksAt ops) (ctxL L (T.take k)) a w->StepF P ops o false (.eq V) a w)\/
  (T[k]?=some none/\o.dst=none/\o.guard=none/\(∀w w',Ext w w'->hs (k+1) w->hs (k+1) w')/\(∀w,hs (k+1) w->C w)/\
   ∀a w,hs k w->a.tmps.size=n.n->a.defers=n.ds->FrOn (o.looksAt ops) (ctxL L (T.take k)) a w->StepS P o (hs (k+1)) a w)
theorem r8{C:World->Prop}{F:List (Nat × RL)->(World->Prop)->Prop}:∀(l:List Oper) (L:List (Nat × RL)) (H:World->Prop),eR P ops C n F L H l->
 ∃(T:List (Option (Nat × Value))) (hs:Nat->World->Prop),T.length=l.length/\hs 0=H/\(∀k o,l[k]?=some o->Told P ops C n L T hs k o)/\F (ctxL L T) (hs l.length)
 |[],L,H,h=>⟨[],λ_=>H,rfl,rfl,λk o h=>by simp at h,h⟩
 |o::l,L,H,.inl ⟨d,V,W,X,Y,h4⟩=>by
  obtain⟨T,hs,t1,t2,t3,t4⟩:=r8 l _ _ h4
  refine⟨some (d,V)::T,λk=>match k with|0=>H|k+1=>hs k,by simp[t1],rfl,λk o' f=>?_,t4⟩
  cases k with
  |zero=>
   simp only[List.getElem?_cons_zero,Option.some.injEq]at f
   subst f
   exact⟨.inl ⟨d,V,by simp,W,X,t2,Y⟩⟩
  |succ k=>
   simp only[List.getElem?_cons_succ]at f
   exact⟨(t3 k o' f).way.imp (λ⟨d',V',e1,u,E,J,e5⟩=>⟨d',V',by simpa using e1,u,E,J,by simpa[ctxL]using e5⟩)
    λ⟨e1,u,E,J,e5,e6⟩=>⟨by simpa using e1,u,E,J,e5,by simpa[ctxL]using e6⟩⟩
 |o::l,L,H,.inr ⟨H',W,X,Y,h4,h5,h6⟩=>by
  obtain⟨T,hs,t1,t2,t3,t4⟩:=r8 l _ _ h6
  refine⟨none::T,λk=>match k with|0=>H|k+1=>hs k,by simp[t1],rfl,λk o' f=>?_,t4⟩
  cases k with
  |zero=>
   simp only[List.getElem?_cons_zero,Option.some.injEq]at f
   subst f
   refine⟨.inr ⟨by simp,W,X,?_,?_,?_⟩⟩
   · show ∀w w',Ext w w'->hs 0 w->hs 0 w'
     rw[t2];exact Y
   · show ∀w,hs 0 w->C w
     rw[t2];exact h4
   · show ∀a w,H w->_->_->_->StepS P o (hs 0) a w
     rw[t2];exact h5
  |succ k=>
   simp only[List.getElem?_cons_succ]at f
   exact⟨(t3 k o' f).way.imp (λ⟨d',V',e1,u,E,J,e5⟩=>⟨d',V',by simpa using e1,u,E,J,by simpa[ctxL]using e5⟩)
    λ⟨e1,u,E,J,e5,e6⟩=>⟨by simpa using e1,u,E,J,e5,by simpa[ctxL]using e6⟩⟩
structure CQ (ops:Array Oper) (n:Nm) (T:List (Option (Nat × Value))) (hs:Nat->World->Prop) (a0:Act) (listed:Array Bool) (a:Act) (w:World):Prop where
 inv:HeadInv .any ops ops.size listed
 size:a.tmps.size=n.n
 defers:a.defers=n.ds
 old:∀s,(∀j o,ops[j]?=some o->listed.getD j false=true->o.dst≠some s)->a.tmps.getD s undef=a0.tmps.getD s undef
 new:∀(j d:Nat) (V:Value),T[j]?=some (some (d,V))->listed.getD j false=true->a.tmps.getD d undef=V
 at_:∃t,t<=ops.size/\hs t w/\∀j o,ops[j]?=some o->o.dst=none->(listed.getD j false=true<->j<t)
theorem mM(ok:vm ops){listed:Array Bool}(H:∀j oj,ops[j]?=some oj->listed.getD j false=true->∀e∈oj.after,Region.binds .any e=true->listed.getD e.on false=true) :
 ∀(D k j:Nat) (o oj:Oper),k-j<=D->j<k->ops[k]?=some o->ops[j]?=some oj->o.dst=none->oj.dst=none->(∀e∈o.after,Region.binds .any e=true->listed.getD e.on false=true)->listed.getD j false=true
 |0,k,j,o,oj,hD,f,_,_,_,_,_=>by omega
 |D+1,k,j,o,oj,hD,f,J,u,hd,E,hr=>by
  rcases ok.chain j k oj o f u J E hd with h|⟨i,oi,h1,h2,W,h4⟩
  · obtain⟨o',X,e,he,hb,Y⟩:=Region.waitsFor_spec h
    obtain rfl:o'=o:=Option.some.inj (X.symm.trans J)
    rw[<-Y]
    exact hr e he hb
  · have hi:=mM ok H D k i o oi (by omega) h2 J W hd h4 hr
    exact mM ok H D i j oi oj (by omega) h1 W u h4 E (H i oi W hi)
theorem qp{C:World->Prop}{L:List (Nat × RL)}{T:List (Option (Nat × Value))}{hs:Nat->World->Prop}(u:∀k o,ops[k]?=some o->Told P ops C n L T hs k o) :
 ∀(D t:Nat),t+D<=ops.size->(∀j o,t<=j->j<t+D->ops[j]?=some o->o.dst≠none)->hs (t+D)=hs t
 |0,t,_,_=>rfl
 |D+1,t,H,h=>by
  have J:=qp u D t (by omega) λj o W Y X=>h j o W (by omega) X
  have f:t+D<ops.size:=by omega
  have E:ops[t+D]?=some ops[t+D]:=by simp[f]
  rcases(u _ _ E).way with⟨d,V,_,_,_,e,_⟩|⟨_,e,_⟩
  · rw[<-J]
    exact e
  ·exact absurd e (h (t+D) _ (by omega) (by omega) E)
theorem vr{Q:Exit->Act->World->Prop}{C:World->Prop}{T:List (Option (Nat × Value))}{hs:Nat->World->Prop}{L0:List (Nat × RL)}{a0:Act}(ok:vm ops)
 (dv:∀s r,lookL L0 s=some r->∃V,r=.eq V/\a0.tmps.getD s undef=V) (hT:∀k o,ops[k]?=some o->Told P ops C n L0 T hs k o)
 (c8:∀w w',Ext w w'->hs 0 w->hs 0 w') (dz:∀w,hs 0 w->C w)
 (cc:∀listed a w,(∀i,i<ops.size->listed.getD i false=true)->CQ ops n T hs a0 listed a w->Q .normal a w) :
 ∀(f:Nat) (listed:Array Bool) (a:Act) (w:World),m3 listed ops.size=f->CQ ops n T hs a0 listed a w->wpAny P .any ops Q f listed a w:=by
 have hC:∀t,t<=ops.size->(∀w w',Ext w w'->hs t w->hs t w')/\∀w,hs t w->C w:=by
  intro t
  induction t with
  |zero=>exact λ_=>⟨c8,dz⟩
  |succ t ih=>
   intro ht
   have b2:t<ops.size:=by omega
   have Y:ops[t]?=some ops[t]:=by simp[b2]
   rcases(hT _ _ Y).way with⟨d,V,_,_,_,e,_⟩|⟨_,_,_,e1,e2,_⟩
   ·rw[e];exact ih (by omega)
   ·exact⟨e1,e2⟩
 have dT:∀(j d:Nat) (V:Value),T[j]?=some (some (d,V))->∀o,ops[j]?=some o->o.dst=some d:=by
  intro j d V h o Y
  rcases(hT j o Y).way with⟨d',V',h1,h2,_⟩|⟨h1,_⟩
  · rw[h1]at h
    simp only[Option.some.injEq,Prod.mk.injEq]at h
    rw[h2,h.1]
  ·rw[h1]at h;cases h
 intro f
 induction f with
 |zero=>
  intro listed a w hc E
  have a1:=kr _ hc
  refine⟨?_,cc listed a w a1 E⟩
  cases hr:Region.ready .any ops listed with
  |nil=>rfl
  |cons t ts=>
   exfalso
   have ht:t∈Region.ready .any ops listed:=by rw[hr];simp
   obtain⟨h1,o,Y,_⟩:=mem_ready.1 ht
   have h2:=a1 t (Array.getElem?_eq_some_iff.1 Y).1
   have:=getD_both h1
   rw[h2]at this
   cases this
 |succ f ih=>
  intro listed a w hc E
  obtain⟨i0,e0,e3,b0⟩:=lL _ (show 0<m3 listed ops.size by omega)
  have ch:listed.getD i0 true=false:=getD_in (by rw[E.inv.size];omega) e3
  have cp:i0∈Region.ready .any ops listed:=by
   have Y:ops[i0]?=some ops[i0]:=by simp[e0]
   exact mem_ready.2 ⟨ch,_,Y,λe he hb=>b0 _ (ok.back i0 _ Y e he hb)⟩
  refine⟨λh=>(by rw[h]at cp;cases cp),λi hi=>?_⟩
  obtain⟨ct,oi,H,a1⟩:=mem_ready.1 hi
  have b6:i<ops.size:=(Array.getElem?_eq_some_iff.1 H).1
  have b3:listed.getD i false=false:=getD_both ct
  have b2:i<listed.size:=by rw[E.inv.size];omega
  have b1:(listed.setIfInBounds i true).getD i false=true:=by simp[b2]
  have cx:∀j,(listed.setIfInBounds i true).getD j false=true->j≠i->listed.getD j false=true:=λj hj u=>by
   rwa[getD_set_ne false (Ne.symm u)]at hj
  have b7:m3 (listed.setIfInBounds i true) ops.size=f:=by
   have:=nD b2 b3 _ b6
   omega
  obtain⟨t,bb,bk,b4⟩:=E.at_
  have cy:FrOn (oi.looksAt ops) (ctxL L0 (T.take i)) a w:=by
   intro s a6 r' e4
   rcases kE _ _ _ _ e4 with⟨j,V,hj,rfl⟩|⟨h1,h2⟩
   · have u:j<i:=by
      have:=(List.getElem?_eq_some_iff.1 hj).1
      simp only[List.length_take]at this
      omega
     have da:T[j]?=some (some (s,V)):=by rw[List.getElem?_take,if_pos u]at hj;exact hj
     have W:ops[j]?=some (ops[j]'(by omega)):=by simp[show j<ops.size by omega]
     have a7:=ok.dep j i _ oi s u W H (dT j s V da _ W) a6
     obtain⟨o',bq,e,he,hb,bs⟩:=Region.waitsFor_spec a7
     obtain rfl:o'=oi:=Option.some.inj (bq.symm.trans H)
     exact E.new j s V da (by rw[<-bs];exact a1 e he hb)
   · obtain⟨V,rfl,hV⟩:=dv s r' h2
     show a.tmps.getD s undef=V
     rw[<-hV]
     refine E.old s λj oj W J a8=>?_
     rcases Nat.lt_trichotomy j i with dd|heq|hgt
     · rcases(hT j oj W).way with⟨d,V',h3,h4,_⟩|⟨_,h4,_⟩
       · rw[h4]at a8
         exact h1 j d V' (by rw[List.getElem?_take,if_pos dd];exact h3) (Option.some.inj a8)
       ·rw[h4]at a8;cases a8
     · subst heq
       rw[b3]at J
       cases J
     · have a7:=ok.anti j i oj oi s hgt W H a8 a6
       obtain⟨o',bq,e,he,hb,bs⟩:=Region.waitsFor_spec a7
       have:=E.inv.closed j o' bq J e he hb
       rw[bs,b3]at this
       cases this
  rcases(hT i oi H).way with⟨d,V,c6,hd,e5,ec,c7⟩|⟨c6,hd,hg,ea,ed,c7⟩
  ·
   have next:∀v w',Ext w w'->v=V->CQ ops n T hs a0 (listed.setIfInBounds i true) (a.put oi.dst v) w':=by
    intro v w' X hv
    subst hv
    rw[hd]
    refine⟨E.inv.set hi b6,by simp[Act.put,E.size],by simp[Act.put,E.defers],λs a6=>?_,λj d' V' hj J=>?_,t,bb,(hC t bb).1 _ _ X bk,λj o Y ao=>?_⟩
    · have e6:d≠s:=λe=>by
       subst e
       exact a6 i oi H b1 hd
      rw[jK e6]
      exact E.old s λj o Y J=>a6 j o Y (getD_set_true J)
    · by_cases u:j=i
      · subst u
        rw[c6]at hj
        simp only[Option.some.injEq,Prod.mk.injEq]at hj
        obtain⟨rfl,rfl⟩:=hj
        exact fW (by rw[E.size];exact e5)
      · have dj:=cx j J u
        have e7:j<ops.size:=by
         rcases Nat.lt_or_ge j listed.size with h|h
         ·rw[<-E.inv.size];exact h
         ·simp[Array.getElem?_eq_none h]at dj
        have W:ops[j]?=some (ops[j]):=by simp[e7]
        rw[jK λe=>ok.one j i _ oi d u W H (by rw[dT j d' V' hj _ W,e]) hd]
        exact E.new j d' V' hj dj
    · by_cases u:j=i
      · subst u
        rw[H]at Y
        obtain rfl:=Option.some.inj Y
        rw[hd]at ao;cases ao
      · rw[getD_set_ne false (Ne.symm u)]
        exact b4 j o Y ao
   unfold wpOp
   simp only[H]
   rcases c7 a w ((hC t bb).2 w bk) E.size E.defers cy with⟨ad,hv⟩|⟨ad,hK⟩
   · rw[if_neg (by rw[ad];exact Bool.false_ne_true)]
     exact ih _ _ _ b7 (next undef w (Ext.refl _) hv)
   · rw[if_pos ad]
     left
     exact hK _ _ λv w' X hv _=>ih _ _ _ b7 (next v w' X hv)
  ·
   have b5:∀j oj,j<i->ops[j]?=some oj->oj.dst=none->listed.getD j false=true:=λj oj u W a8=>
    mM ok E.inv.closed _ i j oi oj (Nat.le_refl _) u H W hd a8 a1
   have eb:t<=i:=by
    rcases Nat.lt_or_ge i t with h|h
    · have:=(b4 i oi H hd).2 h
      rw[b3]at this;cases this
    ·exact h
   have he:hs i=hs t:=by
    have:=qp hT (i-t) t (by omega) λj o h1 h2 h3 h4=>by
     have h5:=b5 j o (by omega) h3 h4
     have:=(b4 j o h3 h4).1 h5
     omega
    rwa[show t+(i-t)=i by omega]at this
   have e8:=c7 a w (by rw[he];exact bk) E.size E.defers cy
   unfold wpOp
   simp only[H]
   rw[if_pos (bE hg)]
   left
   refine e8 _ _ λw' e9=>ih _ _ _ b7 ?_
   rw[hd]
   refine⟨E.inv.set hi b6,E.size,E.defers,λs a6=>E.old s λj o Y J=>a6 j o Y (getD_set_true J),λj d' V' hj J=>?_,i+1,by omega,e9,λj o Y ao=>?_⟩
   · refine E.new j d' V' hj (cx j J λe=>?_)
     subst e
     rw[c6]at hj;cases hj
   · by_cases u:j=i
     · subst u
       rw[b1]
       simp
     · rw[getD_set_ne false (Ne.symm u)]
       constructor
       · intro h
         have:=(b4 j o Y ao).1 h
         omega
       · intro h
         exact b5 j o (by omega) Y ao
theorem Bl{Q:Exit->Act->World->Prop}{a:Act}{w:World}{l:List (Nat × Value)}{id:Nat}{ol:List Oper}(C E:World->Prop) (h:Fr n l a) (hm:P.follows .mixedOrders=true) (hB:yQ ol.toArray=true)
 (hC:∀w,E w->C w) (J:∀w w',Ext w w'->E w->E w') (h0:E w)
 (k:eR P ol.toArray C n (λL H=>∀W w',H w'->sK n L W w'->Q .normal W w') (eqs l) E ol):(Code.region id ol.toArray true).wp P Q a w:=by
 have ok:=zC hB
 obtain⟨T,hs,t1,t2,t3,t4⟩:=r8 _ _ _ k
 subst t2
 refine wp_region_any hm ?_
 have hT:∀k o,ol.toArray[k]?=some o->Told P ol.toArray C n (eqs l) T hs k o:=λk o ho=>t3 k o (by simpa using ho)
 have a1:∀k,m3 (Array.replicate ol.toArray.size false) k=k:=by
  intro k
  induction k with
  |zero=>rfl
  |succ k ih=>simp only[m3,ih,getD_replicate_false];simp
 refine vr (T:=T) (hs:=hs) (L0:=eqs l) (a0:=a) ok (λs r hr=>?_) hT J hC (λlisted W w' u X=>?_) _ _ _ _ (a1 _) ?_
 · obtain⟨v,rfl,hv⟩:=fG l s r hr
   exact⟨v,O,h.has _ _ hv⟩
 · obtain⟨t,a7,Y,a6⟩:=X.at_
   have he:hs ol.toArray.size=hs t:=by
    have:=qp hT (ol.toArray.size-t) t (by omega) λj o h1 h2 h3 h4=>by
     have:=(a6 j o h3 h4).1 (u j (Array.getElem?_eq_some_iff.1 h3).1)
     omega
    rwa[show t+(ol.toArray.size-t)=ol.toArray.size by omega]at this
   refine t4 W w' (by rw[show ol.length=ol.toArray.size by simp,he];exact Y) ⟨X.size,X.defers,λs r hr=>?_⟩
   rcases kE _ _ _ _ hr with⟨j,V,hj,rfl⟩|⟨h1,h2⟩
   · refine X.new j s V hj (u j ?_)
     have:=(List.getElem?_eq_some_iff.1 hj).1
     simp only[List.size_toArray]
     omega
   · obtain⟨v,rfl,hv⟩:=fG l s r h2
     show W.tmps.getD s undef=v
     rw[X.old s λj o ho a8 f=>?_]
     ·exact h.has _ _ hv
     · rcases(hT j o ho).way with⟨d,V',h3,h4,_⟩|⟨_,h4,_⟩
       · rw[h4]at f
         exact h1 j d V' h3 (Option.some.inj f)
       ·rw[h4]at f;cases f
 · refine⟨⟨by simp,λj oj _ hl=>(by rw[getD_replicate_false]at hl;cases hl),λt _ ht=>getD_in (by simpa using ht) (getD_replicate_false _ _)⟩,h.size,h.defers,λ_ _=>rfl,λj d V _ hl=>?_,0,Nat.zero_le _,J _ _ (Ext.drew w) h0,λj o ho ad=>?_⟩
   ·rw[getD_replicate_false]at hl;cases hl
   · rw[getD_replicate_false]
     simp
end
def dead:Own:=.row 0 1 (.slice none 0 0) 0 []
def iQ:List Nat->List Own->List Own
 |[],hl=>hl
 |i::I,hl=>iQ I (hl.set i dead)
section
variable {w0:Bs}{w w':World}{Zi Z:FZ}{hl:List Own}
theorem HZ.jF(H:HZ w0 Zi Z hl w) (i:Nat):HZ w0 Zi Z (hl.set i dead) w:=by
 rcases Nat.lt_or_ge i hl.length with h|h
 · have f:∀c,dead.at=some c->(hl[i]).at=some c\/w.heap.size<=c:=λc u=>by simp[dead,Own.at,Value.ownBlock]at u
   exact H.turn i (List.getElem?_eq_getElem h) (H.hp.turn i (List.getElem?_eq_getElem h) dead (World.ownsRow_nil w 0 0 1) O O O (Nat.le_refl _) (λ_ _ _=>rfl) f) (λ_ _ _=>rfl) f
 · rw[List.set_eq_of_length_le h]
   exact H
theorem HZ.iQ:∀(I:List Nat){hl:List Own},HZ w0 Zi Z hl w->HZ w0 Zi Z (iQ I hl) w
 |[],_,H=>H
 |i::I,_,H=>HZ.iQ I (H.jF i)
variable {P:Program}{ops:Array Oper}{n:Nm}{d:Nat}{C:World->Prop}{F:List (Nat × RL)->(World->Prop)->Prop}{L:List (Nat × RL)}{Hh:World->Prop}{rest:List Oper}{o:Oper}{V:Value}{ρ:Type}{r:ρ}
theorem L1(hd:lf n.n o=some d) (H:∀w,C w->cH P (eW L (o.looksAt ops)) w o V) (k:eR P ops C n F ((d,.eq V)::L) Hh rest):eR P ops C n F L Hh (o::rest):=by
 obtain⟨J,W,h3⟩:=jI hd
 refine .inl ⟨d,V,W,by simpa[Nat.blt_eq]using h3,λa w X f u Y=>.inr ⟨bE J,λK Q hk=>?_⟩,k⟩
 exact(H w X).bC n a (gC f u _ (λs hs=>Y s hs)) K Q λv w' E=>hk v w' E.1 E.2.1 E.2.2
theorem xK:∀(k:Nat){L u:List (Nat × RL)}{E f:List Oper},mJ ops n.n k L E=some (u,f)->eR P ops C n F u Hh f->eR P ops C n F L Hh E
 |0,L,u,E,f,e,H=>by
  simp only[mJ,Option.some.injEq,Prod.mk.injEq]at e
  obtain⟨rfl,rfl⟩:=e
  exact H
 |k+1,L,u,[],f,e,H=>by cases e
 |k+1,L,u,o::E,f,e,H=>by
  simp only[mJ]at e
  split at e
  ·cases e
  · rename_i d hd
    split at e
    ·cases e
    · rename_i V J
      exact L1 hd (λw _=>sA J) (xK k e H)
theorem lI{Z:Int}{f:Int->Option ρ}{k:IntKind}(u:aa Z f=some r) (hd:lf n.n o=some d) (E:∀w,C w->cH P (eW L (o.looksAt ops)) w o (.int k Z)) (H:∀z,z=Z->f z=some r->eR P ops C n F ((d,.eq (.int k z))::L) Hh rest):eR P ops C n F L Hh (o::rest):=L1 hd E (H Z rfl u)
variable {t ty e:TypeId}{pos:String}{af:Array Edge}{x y:Operand}{b off k:Nat}{cs:List Value}
theorem LS{I:List Nat}{u:List Own}(i:Nat){off k:Nat}(hx:ev (eW L (Oper.looksAt ops ⟨none,.store t x y,ty,pos,af,none⟩)) x=some (.pointer (some ⟨b,off,none⟩))) (hy:ev (eW L (Oper.looksAt ops ⟨none,.store t x y,ty,pos,af,none⟩)) y=some V) (hi:hl[i]?=some (.blk b (aB cs e)))
 (hs:∀w,(sizeOf t).run P w=.ok k w) (W:List Value) (Y:V.cells.toList=W) (hk:W.length=k) (h1:allOne W=true) (ad:off+k<=cs.length)
 (E:List Value) (a1:putAt cs off W=E){f:List Own}(a6:hl.set i (.blk b (aB E e))=f) (hI:iQ I f=iQ I u)
 (kk:eR P ops (HZ w0 Zi Z (iQ I u)) n F L (HZ w0 Zi Z f) rest) :
 eR P ops (HZ w0 Zi Z (iQ I u)) n F L (HZ w0 Zi Z hl) (⟨none,.store t x y,ty,pos,af,none⟩::rest):=by
 refine .inr ⟨HZ w0 Zi Z f,O,O,λw w' X H=>H.ext X,λw H=>by rw[<-hI];exact H.iQ I,λa w H J a7 hF K Q hK=>?_,kk⟩
 have h:=gC (n:=n) J a7 _ (λs hs=>hF s hs)
 have J:V.cells.size=k:=by rw[<-hk,<- Y];simp
 have e1:execOp a.eval ⟨none,.store t x y,ty,pos,af,none⟩=Instr.storeAt t (a.eval x) (a.eval y) >>= λ_=>pure .skip:=rfl
 obtain⟨w',hr,hh,r1,r2,r3,r4,r5⟩:=dw (P:=P) b off e W 0 cs w (H.hp.get i hi) (by omega) (ge h1)
 have e2:(execOp a.eval ⟨none,.store t x y,ty,pos,af,none⟩).run P w=.ok .skip w':=by
  rw[e1,h.ev hx,h.ev hy]
  simp[Instr.storeAt,Instr.sureAddr,storeVar,hs,J,Y,hr]
 unfold Oper.wp
 rw[e2]
 rw[Nat.add_zero,a1]at hh
 refine hK w' ?_
 have H':=H.hp.turn i hi (.blk b (aB E e)) hh r1 r2 r3 (by omega) (λb' _ a8=>r5 b' (λe=>a8 (by rw[e];rfl))) (λb' hb'=>.inl (by simpa[Own.at]using hb'))
 rw[<-a6]
 exact H.turn i hi H' (λc _ hc=>r5 c λe=>hc (by rw[e];rfl)) (λc hc=>.inl (by simpa[Own.at]using hc))
theorem LZ{I:List Nat}{f:List Own}(i:Nat){off k:Nat}(hs:∀w,(sizeOf t).run P w=.ok k w) (E u:List Value) (hl':List Own) (X:eR P ops (HZ w0 Zi Z (iQ I f)) n F L (HZ w0 Zi Z hl') rest)
 (Y:ev (eW L (Oper.looksAt ops ⟨none,.store t x y,ty,pos,af,none⟩)) x=some (.pointer (some ⟨b,off,none⟩)):=by rfl) (hy:ev (eW L (Oper.looksAt ops ⟨none,.store t x y,ty,pos,af,none⟩)) y=some V:=by rfl) (hi:hl[i]?=some (.blk b (aB cs e)):=by rfl)
 (H:V.cells.toList=E:=by rfl) (hk:E.length=k:=by rfl) (h1:allOne E=true:=by rfl) (hle:Nat.ble (off+k) cs.length=true:=by rfl) (J:putAt cs off E=u:=by rfl) (W:hl.set i (.blk b (aB u e))=hl':=by rfl) (hI:iQ I hl'=iQ I f:=by rfl) :
 eR P ops (HZ w0 Zi Z (iQ I f)) n F L (HZ w0 Zi Z hl) (⟨none,.store t x y,ty,pos,af,none⟩::rest):=
 LS i Y hy hi hs E H hk h1 (by simpa[Nat.ble_eq]using hle) u J W hI X
theorem lE{G:Act->World->Prop}(S:List Nat) (u:List (Nat × Value)) (J:∀a w,Hh w->Fr n u a->G a w) (e:eW L S=u:=by rfl) :
 eR P ops C n (λL H=>∀E w',H w'->sK n L E w'->G E w') L Hh []:=λa w H f=>
 J a w H (by subst e;exact gC f.size f.defers S λs _ r W=>f.has s r W)
end
section
variable {P:Program}{Q:Exit->Act->World->Prop}{n:Nm}{l:List (Nat × Value)}{a:Act}{w:World}{w0:Bs}{Zi Z:FZ}{hl:List Own}
theorem lt{id:Nat}{ol:List Oper}{y:Code}(I:List Nat) (h:Fr n l a) (H:HZ w0 Zi Z hl w) (k:eR P ol.toArray (HZ w0 Zi Z (iQ I hl)) n (λL H=>∀f w',H w'->sK n L f w'->y.wp P Q f w') (eqs l) (HZ w0 Zi Z hl) ol)
 (u:P.follows .mixedOrders=true:=by kernel_rfl) (E:yQ ol.toArray=true:=by kernel_rfl):(Code.seq (.region id ol.toArray true) y).wp P Q a w:=
 wp_seq_k λK J=>Bl (HZ w0 Zi Z (iQ I hl)) (HZ w0 Zi Z hl) h u E (λw H=>H.iQ I) (λw w' X H=>H.ext X) H (by
  refine ls (λL H' W f w' Y h2=>?_) k
  exact J _ _ (W f w' Y h2))
end
end Go.Stp
end
section
namespace Go.Stp
open Go.RowKit
def jQ(P:Program) (ops:Array Oper) (G:Act->World->Prop):List Oper->Act->World->Prop
 |[],a,w=>G a w
 |o::rest,a,w=>∃v w',R1 P ops o a w v w'/\jQ P ops G rest (a.put o.dst v) w'
theorem oy{P:Program}{ops:Array Oper}{w1:World}{n:Nm}{F f:List (Nat × RL)->List Nat->Prop}(h:∀L A,F L A->f L A):∀{u:List Oper}{L:List (Nat × RL)}{A:List Nat},bm P ops w1 n F L A u->bm P ops w1 n f L A u
 |[],_,_,k=>h _ _ k
 |_::_,_,_,⟨d,r,fr,E,H,J,W,k⟩=>⟨d,r,fr,E,H,J,W,oy h k⟩
def sL(ops:Array Oper) (m:Nat) (U:List Nat):Bool:=
 oz ops m&&decide (m<ops.size)&&Region.chainB .any ops m&&((List.range ops.size).all λt=>(decide (t<m)||(match ops[t]? with|some o=>o.after.all λe=>!Region.binds .any e||Nat.blt e.on t|none=>false))) &&
 ((List.range m).all λi=>U.contains i||(List.range (m+1)).any λj=>decide (i<j)&&!U.contains j&&Region.waitsFor .any ops j i)&&Region.noSelect ops &&
 U.all λi=>decide (i<m)&&match ops[i]? with
  |some o=>(match o.op with|.extract _ _=>true|_=>false)&&o.guard.isNone&&(List.range ops.size).all λj=>Nat.beq j i||Region.waitsFor .any ops j i||(decide (j<m)&&!U.contains j)||match ops[j]? with|some oj=>o.apart ops oj|none=>false
  |none=>false
section
variable {P:Program}{ops:Array Oper}{w1:World}{n:Nm}{m:Nat}
structure xT (ops:Array Oper) (m:Nat) (U:List Nat):Prop where
 flow:FlowOk ops m
 lt:m<ops.size
 chain:Region.chainB .any ops m=true
 back:∀t,m<=t->t<ops.size->∀o,ops[t]?=some o->∀e∈o.after,Region.binds .any e=true->e.on<t
 sink:∀i,i<m->i ∉ U->∃j,i<j/\j<=m/\j ∉ U/\Region.waitsFor .any ops j i=true
 sel:∀(j:Nat) (o:Oper) cs b,ops[j]?=some o->o.op≠.select cs b
 pure:∀i∈U,i<m/\∃o x k,ops[i]?=some o/\o.op=.extract x k/\o.guard=none
 apart:∀i∈U,∀o,ops[i]?=some o->∀j oj,ops[j]?=some oj->j≠i->(m<=j\/j∈U)->(∀e∈oj.after,Region.binds .any e=true->e.on≠i)->o.apart ops oj=true
theorem xO{U:List Nat}(h:sL ops m U=true):xT ops m U:=by
 simp only[sL,Bool.and_eq_true,decide_eq_true_eq]at h
 obtain⟨⟨⟨⟨⟨⟨h1,h2⟩,h3⟩,h4⟩,h5⟩,h6⟩,h7⟩:=h
 have X:∀i∈U,i<m/\∃o x k,ops[i]?=some o/\o.op=.extract x k/\o.guard=none/\∀j oj,ops[j]?=some oj->j≠i->(m<=j\/j∈U)->(∀e∈oj.after,Region.binds .any e=true->e.on≠i)->o.apart ops oj=true:=by
  intro i hi
  have h8:=List.all_eq_true.1 h7 i hi
  obtain⟨h9,f⟩:=Bool.and_eq_true_iff.1 h8
  refine⟨by simpa using h9,?_⟩
  cases E:ops[i]? with
  |none=>rw[E]at f;cases f
  |some o=>
   rw[E]at f
   simp only[Bool.and_eq_true]at f
   obtain⟨⟨u,h12⟩,a1⟩:=f
   have hx:∃x k,o.op=.extract x k:=by
    split at u
    · rename_i x k e
      exact⟨x,k,e⟩
    ·cases u
   obtain⟨x,k,hx⟩:=hx
   refine⟨o,x,k,O,hx,by simpa using h12,λj oj H J hjm W=>?_⟩
   have h14:=List.all_eq_true.1 a1 j (List.mem_range.2 (Array.getElem?_eq_some_iff.1 H).1)
   rw[H]at h14
   simp only[Bool.or_eq_true]at h14
   rcases h14 with((h14|h14)|h14)|h14
   ·exact absurd (Nat.eq_of_beq_eq_true h14) J
   · obtain⟨o',a6,e,he,hb,a7⟩:=Region.waitsFor_spec h14
     obtain rfl:o'=oj:=Option.some.inj (a6.symm.trans H)
     exact absurd a7 (W e he hb)
   · obtain⟨h15,Y⟩:=Bool.and_eq_true_iff.1 h14
     have h15:j<m:=by simpa using h15
     rcases hjm with hjm|hjm
     ·omega
     · have:U.contains j=true:=List.contains_iff_mem.2 hjm
       rw[this]at Y
       cases Y
   ·exact h14
 refine⟨tP h1,h2,h3,λt ht a8 o E e he hb=>?_,λi hi hu=>?_,λj o cs b E=>Region.noSelect_spec h6 j o cs b E,λi hi=>?_,λi hi o E j oj H J hjm W=>?_⟩
 · have h8:=List.all_eq_true.1 h4 t (List.mem_range.2 a8)
   rw[E]at h8
   simp only[Bool.or_eq_true,decide_eq_true_eq]at h8
   rcases h8 with h8|h8
   ·omega
   · have:=Array.all_eq_true_iff_forall_mem.1 h8 e he
     simpa[hb,Nat.blt_eq]using this
 · have h8:=List.all_eq_true.1 h5 i (List.mem_range.2 hi)
   rcases Bool.or_eq_true_iff.1 h8 with h8|h8
   ·exact absurd (List.contains_iff_mem.1 h8) hu
   · obtain⟨j,H,h9⟩:=List.any_eq_true.1 h8
     simp only[Bool.and_eq_true,decide_eq_true_eq,Bool.not_eq_true']at h9
     refine⟨j,h9.1.1,by have:=List.mem_range.1 H;omega,λhm=>?_,h9.2⟩
     have:U.contains j=true:=List.contains_iff_mem.2 hm
     rw[this]at h9
     cases h9.1.2
 · obtain⟨h8,o,x,k,h9,f,u,_⟩:=X i hi
   exact⟨h8,o,x,k,h9,f,u⟩
 · obtain⟨_,o',x,k,h9,f,u,h12⟩:=X i hi
   obtain rfl:o'=o:=Option.some.inj (h9.symm.trans E)
   exact h12 j oj H J hjm W
theorem DS{o:Oper}{x:Operand}{k d:Nat}{r:RL}{fr:Bool}{a:Act}{w:World}(ho:o.op=.extract x k) (hg:o.guard=none) (hd:o.dst=some d) (f:d<a.tmps.size) (h:StepF P ops o fr r a w) :
 ∃v,(∀w',R1 P ops o a w' v w')/\r.at w.heap.size w.heap.size w v/\(fr=true->∀b,ownB v=some b->w.heap.size<=b/\b<w.heap.size):=by
 have J:=bE (ops:=ops) (a:=a) hg
 rcases h with⟨h,_⟩|⟨_,h⟩
 ·rw[J]at h;cases h
 · have h:=h (λa' w'=>∃v,Ext w w'/\r.at w.heap.size w'.heap.size w' v/\(fr=true->∀b,ownB v=some b->w.heap.size<=b/\b<w'.heap.size)/\a'=a.put o.dst v/\w'.heap.size=w'.heap.size) (λ_ _ _=>False) λv w' X u hf=>⟨v,X,u,hf,rfl,rfl⟩
   have E:execOp a.eval o=Instr.extract (a.eval x) k >>= λv=>pure (.value v):=by
    unfold execOp
    rw[ho]
   unfold Oper.wp at h
   rw[E]at h
   cases W:a.eval x with
   |tuple vs=>
    rw[W]at h E
    cases u:vs[k]? with
    |none=>simp[Instr.extract,u,stuck,Oper.upon]at h
    |some H=>
     have e2:∀w,(execOp a.eval o).run P w=.ok (.value H) w:=λw=>by
      rw[E]
      simp[Instr.extract,u]
     simp only[Instr.extract,u,Sem.run_bind,Sem.run_pure,Result.andThen_ok,Oper.upon_value]at h
     obtain⟨v,X,h1,h2,Y,_⟩:=h
     have h4:H=v:=by
      rw[hd]at Y
      have:=congrArg (λb:Act=>b.tmps.getD d undef) Y
      rwa[fW f,fW f]at this
     subst h4
     exact⟨H,λw'=>.inr ⟨J,.inl (e2 w')⟩,h1,h2⟩
   |_=>rw[W]at h;simp[Instr.extract,stuck,Oper.upon]at h
theorem rL{F:Act->World->Prop}(hc:Region.chainB .any ops m=true) (f:∀t,m<=t->t<ops.size->∀o,ops[t]?=some o->∀e∈o.after,Region.binds .any e=true->e.on<t) :
 ∀(l:List Oper) (k:Nat) (listed:Array Bool) (a:Act) (w:World),(∀j,l[j]?=ops[k+j]?)->k+l.length=ops.size->m<=k->listed.size=ops.size->(∀i,i<k->listed.getD i false=true)->(∀t,k<=t->t<ops.size->listed.getD t true=false)->
  jQ P ops F l a w->lC P ops F l.length listed a w
 |[],k,listed,a,w,hl,E,hm,hs,u,J,H=>by
  refine⟨?_,H⟩
  cases W:Region.ready .any ops listed with
  |nil=>rfl
  |cons t ts=>
   exfalso
   have ht:t∈Region.ready .any ops listed:=by rw[W];simp
   obtain⟨h3,o,ho,_⟩:=mem_ready.1 ht
   have a1:=(Array.getElem?_eq_some_iff.1 ho).1
   have h4:=u t (by simp at E;omega)
   have:=getD_both h3
   rw[h4]at this
   cases this
 |o::l,k,listed,a,w,hl,E,hm,hs,u,J,H=>by
  obtain⟨v,w',hR,H⟩:=H
  have h0:ops[k]?=some o:=by simpa using(hl 0).symm
  simp only[List.length_cons]at E⊢
  have W:=pB hc f hm (by omega) u J
  refine lS W h0 hR O (rL hc f l (k+1) _ _ _ (λj=>by have:=hl (j+1);simpa[Nat.add_assoc,Nat.add_comm 1 j]using this) (by omega) (by omega) (by simpa using hs) (λi hi=>?_) (λt ht X=>?_) H)
  · by_cases Y:i=k
    · subst Y
      have:i<listed.size:=by omega
      simp[this]
    ·exact getD_set_true (u i (by omega))
  · rw[getD_set_ne true (by omega)]
    exact J t (by omega) X
theorem wQ{U:List Nat}(L:xT ops m U){listed:Array Bool}(inv:HeadInv .any ops m listed){t:Nat}(ht:m<=t) (hr:t∈Region.ready .any ops listed):∀(D i:Nat),m-i<=D->i<m->i ∉ U->listed.getD i false=true:=by
 obtain⟨a6,o,W,u⟩:=mem_ready.1 hr
 have X:t<ops.size:=(Array.getElem?_eq_some_iff.1 W).1
 have Y:t=m:=by
  rcases Nat.lt_or_ge m t with h|h
  · exfalso
    have h3:=List.all_eq_true.1 L.chain t (List.mem_range.2 X)
    simp only[Bool.or_eq_true,decide_eq_true_eq]at h3
    rcases h3 with h3|h3
    ·omega
    · obtain⟨o',a1,e,H,J,f⟩:=Region.waitsFor_spec h3
      obtain rfl:o'=o:=Option.some.inj (a1.symm.trans W)
      have h4:=u e H J
      rw[f,getD_both (inv.tail (t-1) (by omega) (by omega))]at h4
      cases h4
  ·omega
 subst Y
 intro D
 induction D with
 |zero=>intro i h1 h2;omega
 |succ D ih=>
  intro i h1 h2 h3
  obtain⟨j,h4,h5,h6,h7⟩:=L.sink i h2 h3
  obtain⟨oj,E,e,H,J,f⟩:=Region.waitsFor_spec h7
  rcases Nat.lt_or_ge j t with h|h
  · have:=ih j (by omega) h h6
    rw[<-f]
    exact inv.closed j oj E this e H J
  · obtain rfl:j=t:=by omega
    obtain rfl:oj=o:=Option.some.inj (E.symm.trans W)
    rw[<-f]
    exact u e H J
theorem vf{Q:Exit->Act->World->Prop}{T:List (Nat × RL × Bool)}{L0:List (Nat × RL)}{a0:Act}{U:List Nat}{ol:List Oper}(b4:ops=ol.toArray) (L:xT ops m U) (hT:T.length=m)
 (da:∀s r,lookL L0 s=some r->r.mW/\r.holds w1 (a0.tmps.getD s undef))
 (H:∀k o,k<m->ops[k]?=some o->∃d r fr,T[k]?=some (d,r,fr)/\o.dst=some d/\d<n.n/\r.mW/\
  ∀a w,Ext w1 w->a.tmps.size=n.n->a.defers=n.ds->FrOn (o.looksAt ops) (ctx L0 (T.take k)) a w->StepF P ops o fr r a w)
 (bq:∀listed a w,(∀i,i<m->listed.getD i false=true)->Way ops m n w1 T a0 listed a w->jQ P ops (λa w=>Q .normal a w) (ol.drop m) a w) :
 ∀(f:Nat) (listed:Array Bool) (a:Act) (w:World),m3 listed m=f->Way ops m n w1 T a0 listed a w->wpAny P .any ops Q (f+(ol.drop m).length) listed a w:=by
 have ok:=L.flow
 have bs:m<=ops.size:=Nat.le_of_lt L.lt
 have dT:∀(j d:Nat) (r:RL) (fr:Bool),T[j]?=some (d,r,fr)->j<m/\dstOf ops j=some d:=by
  intro j d r fr h
  have hj:j<m:=by rw[<-hT];exact(List.getElem?_eq_some_iff.1 h).1
  obtain⟨o,d',h1,h2,_⟩:=ok.op j hj
  obtain⟨dd,dv,c6,h3,h4,_⟩:=H j o hj h1
  rw[h3]at h
  simp only[Option.some.injEq,Prod.mk.injEq]at h
  obtain⟨rfl,_⟩:=h
  exact⟨hj,by simp[dstOf,h1,h4]⟩
 have sT:∀(j d:Nat) (r:RL) (fr:Bool),T[j]?=some (d,r,fr)->r.mW:=by
  intro j d r fr h
  obtain⟨hj,_⟩:=dT j d r fr h
  obtain⟨o,d',h1,h2,_⟩:=ok.op j hj
  obtain⟨dd,dv,c6,h3,h4,_,h5,_⟩:=H j o hj h1
  rw[h3]at h
  simp only[Option.some.injEq,Prod.mk.injEq]at h
  rw[<-h.2.1]
  exact h5
 have c7:∀{listed:Array Bool}{a:Act}{w:World}{i:Nat}{oi:Oper},Way ops m n w1 T a0 listed a w->i<m->ops[i]?=some oi->listed.getD i false=false->(∀e∈oi.after,Region.binds .any e=true->listed.getD e.on false=true)->FrOn (oi.looksAt ops) (ctx L0 (T.take i)) a w:=by
  intro listed a w i oi E a6 u a7 W s hs r' dz
  rcases gN _ _ _ _ dz with⟨j,b5,hj⟩|⟨h1,h2⟩
  · have b2:j<i:=by
     have:=(List.getElem?_eq_some_iff.1 hj).1
     simp only[List.length_take]at this
     omega
    have c8:T[j]?=some (s,r',b5):=by rw[List.getElem?_take,if_pos b2]at hj;exact hj
    obtain⟨ec,a8⟩:=dT j s r' b5 c8
    have Y:=ok.dep j i oi s b2 a6 u a8 hs
    obtain⟨o',b6,e,he,hb,b7⟩:=Region.waitsFor_spec Y
    obtain rfl:o'=oi:=Option.some.inj (b6.symm.trans u)
    have ad:listed.getD j false=true:=by rw[<-b7];exact W e he hb
    exact E.new j s r' b5 c8 ad
  · obtain⟨st,ho⟩:=da s r' h2
    have:a.tmps.getD s undef=a0.tmps.getD s undef:=by
     refine E.old s λj hj ad a8=>?_
     rcases Nat.lt_trichotomy j i with ao|heq|hgt
     · obtain⟨oj,dj,h3,h4,_⟩:=ok.op j hj
       obtain⟨d3,r3,e0,h5,h6,_⟩:=H j oj hj h3
       have:d3=s:=by
        have:dstOf ops j=some d3:=by simp[dstOf,h3,h6]
        rw[this]at a8
        exact Option.some.inj a8
       subst this
       exact h1 j d3 r3 e0 (by rw[List.getElem?_take,if_pos ao];exact h5) rfl
     · subst heq
       rw[a7]at ad
       cases ad
     · have Y:=ok.anti j i oi s hgt hj u a8 hs
       obtain⟨o',b6,e,he,hb,b7⟩:=Region.waitsFor_spec Y
       have:=E.inv.closed j o' b6 ad e he hb
       rw[b7,a7]at this
       cases this
    rw[this]
    exact st.on E.ext ho
 have b0:∀(f:Nat) (listed:Array Bool) (a:Act) (w:World),m3 listed m=f->Way ops m n w1 T a0 listed a w->(∀i,i<m->i ∉ U->listed.getD i false=true)->lC P ops (λa w=>Q .normal a w) (f+(ol.drop m).length) listed a w:=by
  intro f
  induction f with
  |zero=>
   intro listed a w hc E hU
   rw[Nat.zero_add]
   have W:=kr m hc
   refine rL L.chain L.back _ m listed a w (λj=>by rw[b4];simp[List.getElem?_drop]) ?_ (Nat.le_refl _) E.inv.size W E.inv.tail (bq listed a w W E)
   rw[b4,List.length_drop]
   have:=L.lt
   rw[b4]at this
   simp at this⊢
   omega
  |succ f ih=>
   intro listed a w hc E hU
   rw[show f+1+(ol.drop m).length=(f+(ol.drop m).length)+1 by omega]
   obtain⟨i,hi,hl,J⟩:=lL m (show 0<m3 listed m by omega)
   have cc:i∈U:=by
    rcases Classical.em (i∈U)with h|h
    ·exact h
    · have:=hU i hi h
      rw[hl]at this
      cases this
   have e1:listed.getD i true=false:=getD_in (by rw[E.inv.size];omega) hl
   have ao:i<listed.size:=by rw[E.inv.size];omega
   obtain⟨_,oi,x,k,u,e2,e3⟩:=L.pure i cc
   obtain⟨o2,_,h1,_,h3⟩:=ok.op i hi
   obtain rfl:oi=o2:=Option.some.inj (u.symm.trans h1)
   have b1:∀e∈oi.after,Region.binds .any e=true->listed.getD e.on false=true:=λe he hb=>J _ (h3 e he hb)
   have hr:i∈Region.ready .any ops listed:=mem_ready.2 ⟨e1,oi,u,b1⟩
   obtain⟨d,r,fr,bb,hd,b3,e4,bk⟩:=H i oi hi u
   obtain⟨v,e5,e6,e7⟩:=DS e2 e3 hd (by rw[E.size];exact b3) (bk a w E.ext E.size E.defers (c7 E hi u hl b1))
   refine pZ u L.sel _ listed a w (λj oj e8 b2 ch hno=>L.apart i cc oi u j oj e8 b2 ?_ hno) hr e5 (ih _ _ _ ?_ (Way.next ok bs dT sT E hr hi u hd b3 bb v w (Ext.refl _) e6 e7) λj hj e9=>getD_set_true (hU j hj e9))
   · rcases Nat.lt_or_ge j m with h|h
     · refine .inr ?_
       rcases Classical.em (j∈U)with hj|hj
       ·exact hj
       · have:=hU j h hj
         rw[getD_both ch]at this
         cases this
     ·exact .inl h
   · have:=nD ao hl m hi
     omega
 intro f
 induction f with
 |zero=>
  intro listed a w hc E
  exact ig _ _ _ _ (b0 0 listed a w hc E λi hi _=>kr m hc i hi)
 |succ f ih=>
  intro listed a w hc E
  rcases Classical.em (∃t,m<=t/\t∈Region.ready .any ops listed)with⟨t,ht,hr⟩|hno
  ·exact ig _ _ _ _ (b0 _ listed a w hc E λi hi hU=>wQ L E.inv ht hr _ i (Nat.le_refl _) hi hU)
  · rw[show f+1+(ol.drop m).length=(f+(ol.drop m).length)+1 by omega]
    obtain⟨i0,ea,eb,J⟩:=lL m (show 0<m3 listed m by omega)
    have cp:listed.getD i0 true=false:=getD_in (by rw[E.inv.size];omega) eb
    have ct:i0∈Region.ready .any ops listed:=by
     obtain⟨o,d,h1,h2,h3⟩:=ok.op i0 ea
     exact mem_ready.2 ⟨cp,o,h1,λe he hb=>J _ (h3 e he hb)⟩
    refine⟨λh=>(by rw[h]at ct;cases ct),λi hi=>?_⟩
    have a6:i<m:=by
     rcases Nat.lt_or_ge i m with h|h
     ·exact h
     ·exact absurd ⟨i,h,hi⟩ hno
    obtain⟨cx,oi,u,W⟩:=mem_ready.1 hi
    have a7:listed.getD i false=false:=getD_both cx
    obtain⟨d,r,fr,bb,hd,b3,e4,bk⟩:=H i oi a6 u
    have ao:i<listed.size:=by rw[E.inv.size];omega
    have next:=Way.next ok bs dT sT E hi a6 u hd b3 bb
    have cy:m3 (listed.setIfInBounds i true) m=f:=by
     have:=nD ao a7 m a6
     omega
    unfold wpOp
    simp only[u]
    rcases bk a w E.ext E.size E.defers (c7 E a6 u a7 W)with⟨a1,hv⟩|⟨a1,hK⟩
    · rw[if_neg (by rw[a1];exact Bool.false_ne_true)]
      exact ih _ _ _ cy (next undef w (Ext.refl _) hv (λ_ b hb=>by simp[ownB,undef]at hb))
    · rw[if_pos a1]
      left
      exact hK _ _ λv w' X hv hf=>ih _ _ _ cy (next v w' X hv hf)
theorem pD{G f:Act->World->Prop}(h:∀a w,G a w->f a w):∀{l:List Oper}{a:Act}{w:World},jQ P ops G l a w->jQ P ops f l a w
 |[],_,_,k=>h _ _ k
 |_::_,_,_,⟨v,w',u,k⟩=>⟨v,w',u,pD h k⟩
theorem yO{Q:Exit->Act->World->Prop}{a:Act}{w:World}{l:List (Nat × Value)}{id:Nat}{ol:List Oper}(u:Nat) (U:List Nat) (h:Fr n l a) (hm:P.follows .mixedOrders=true) (hB:sL ol.toArray u U=true)
 (H:bm P ol.toArray w n (λL A=>∀a' w',Ext w w'->sK n L a' w'->io w L A a' w'->jQ P ol.toArray (λa w=>Q .normal a w) (ol.drop u) a' w') (eqs l) [] (ol.take u)):(Code.region id ol.toArray true).wp P Q a w:=by
 have L:=xO hB
 have b5:u<ol.length:=by simpa using L.lt
 refine wp_region_any hm ?_
 obtain⟨T,t1,t2,t3⟩:=sP _ _ _ H
 have J:(ol.take u).length=u:=by simp;omega
 have a6:HeadInv .any ol.toArray u (Array.replicate ol.toArray.size false):=
  ⟨by simp,λj oj _ hl=>(by rw[getD_replicate_false]at hl;cases hl),λt _ ht=>getD_in (by simpa using ht) (getD_replicate_false _ _)⟩
 have X:∀k o,k<u->ol.toArray[k]?=some o->∃d r fr,T[k]?=some (d,r,fr)/\o.dst=some d/\d<n.n/\r.mW/\
  ∀a w',Ext w w'->a.tmps.size=n.n->a.defers=n.ds->FrOn (o.looksAt ol.toArray) (ctx (eqs l) (T.take k)) a w'->StepF P ol.toArray o fr r a w':=λk o hk ho=>
  t2 k o (by rw[List.getElem?_take,if_pos hk];simpa using ho)
 have Y:∀k,(Array.replicate ol.toArray.size false).getD k false=true->False:=λk hk=>by rw[getD_replicate_false]at hk;cases hk
 have ad:∀k,m3 (Array.replicate ol.toArray.size false) k=k:=by
  intro k
  induction k with
  |zero=>rfl
  |succ k ih=>simp only[m3,ih,getD_replicate_false];simp
 have ao:ol.toArray.size=u+(ol.drop u).length:=by simp;omega
 have h0:Way ol.toArray u n w T a (Array.replicate ol.toArray.size false) a { w with drawn:=w.drawn+1 }:=⟨a6,Ext.drew w,h.size,h.defers,λ_ _=>rfl,λj d r fr _ hl=>(Y j hl).elim,λj d r _ hl=>(Y j hl).elim,λj d r i d' r' _ _ _ hl=>(Y j hl).elim,λj d R fr _ hl=>(Y j hl).elim⟩
 have b0:=vf (P:=P) (Q:=Q) (T:=T) (L0:=eqs l) (a0:=a) (w1:=w) (n:=n) rfl L (by rw[t1,J]) (λs r hr=>by
  obtain⟨v,rfl,hv⟩:=fG l s r hr
  exact⟨trivial,h.has _ _ hv⟩) X (λlisted a' w' hl Wy=>t3 a' w' Wy.ext ⟨Wy.size,Wy.defers,λs r hr=>by
   rcases gN _ _ _ _ hr with⟨j,fr,E⟩|⟨h1,h2⟩
   · have W:j<u:=by rw[<-J,<- t1];exact(List.getElem?_eq_some_iff.1 E).1
     exact Wy.new j s r fr E (hl j W)
   · obtain⟨v,rfl,hv⟩:=fG l s r h2
     show a'.tmps.getD s undef=v
     rw[Wy.old s λj E b6 a7=>?_]
     ·exact h.has _ _ hv
     · obtain⟨oj,dj,h3,h4,_⟩:=L.flow.op j E
       obtain⟨d3,r3,b1,h5,h6,_⟩:=X j oj E h3
       have:dstOf ol.toArray j=some d3:=by simp only[dstOf,h3,Option.bind_some,h6]
       rw[this]at a7
       exact h1 j d3 r3 b1 h5 (Option.some.inj a7)⟩ ⟨λs R hr=>by
   rcases gN _ _ _ _ hr with⟨j,fr,E⟩|⟨h1,h2⟩
   · have W:j<u:=by rw[<-J,<- t1];exact(List.getElem?_eq_some_iff.1 E).1
     obtain⟨lo,b2,k1,k2,k3,k4⟩:=Wy.iv j s R fr E (hl j W)
     refine⟨lo,b2,k1,k3,λt ht b3 b hb=>?_⟩
     rcases gt _ _ _ ht with ht|⟨i,r',f⟩
     ·cases ht
     · have a1:i<u:=by rw[<-J,<- t1];exact(List.getElem?_eq_some_iff.1 f).1
       by_cases a8:j=i
       · subst a8
         rw[E]at f
         simp only[Option.some.injEq,Prod.mk.injEq]at f
         exact absurd f.1.symm b3
       ·exact k4 i t r' f (hl i a1) a8 b hb
   · obtain⟨v,hv,_⟩:=fG l s _ h2
     exact(nomatch hv),λs hs b hb=>by
   rcases gt _ _ _ hs with hs|⟨j,r,E⟩
   ·cases hs
   · have W:j<u:=by rw[<-J,<- t1];exact(List.getElem?_eq_some_iff.1 E).1
     exact Wy.lo j s r E (hl j W) b hb,λs hs t ht b4 b hb=>by
   rcases gt _ _ _ hs with hs|⟨j,r,E⟩
   ·cases hs
   · rcases gt _ _ _ ht with ht|⟨i,r',f⟩
     ·cases ht
     · have W:j<u:=by rw[<-J,<- t1];exact(List.getElem?_eq_some_iff.1 E).1
       have a1:i<u:=by rw[<-J,<- t1];exact(List.getElem?_eq_some_iff.1 f).1
       refine Wy.ne j s r i t r' E f (λe=>?_) (hl j W) (hl i a1) b hb
       subst e
       rw[E]at f
       simp only[Option.some.injEq,Prod.mk.injEq]at f
       exact b4 f.1⟩) u _ a _ (ad u) h0
 rwa[<-ao]at b0
end
section
variable {P:Program}{ops:Array Oper}{Q:Exit->Act->World->Prop}{G:Act->World->Prop}{n:Nm}{l:List (Nat × Value)}{a:Act}{w:World}{w0:Bs}{Zi Z:FZ}{hl:List Own}{rest:List Oper}{o:Oper}{d:Nat}{V:Value}
theorem D4{id:Nat}{ol:List Oper}{y:Code}(m:Nat) (U:List Nat) (h:Fr n l a) (H:bm P ol.toArray w n (λL A=>∀f w',Ext w w'->sK n L f w'->io w L A f w'->jQ P ol.toArray (λa w=>y.wp P Q a w) (ol.drop m) f w') (eqs l) [] (ol.take m))
 (u:P.follows .mixedOrders=true:=by kernel_rfl) (E:sL ol.toArray m U=true:=by kernel_rfl):(Code.seq (.region id ol.toArray true) y).wp P Q a w:=
 wp_seq_k λK J=>yO m U h u E (by
  refine oy (λL A W f w' X Y h2=>?_) H
  exact pD (λa w hy=>J a w hy) (W f w' X Y h2))
theorem tE(k:G a w):jQ P ops G [] a w:=k
theorem E9(h:Fr n l a) (hd:lf n.n o=some d) (u:cH P l w o V) (E:∀f,Fr n ((d,V)::l) f->jQ P ops G rest f w):jQ P ops G (o::rest) a w:=by
 obtain⟨H,J,W⟩:=jI hd
 refine⟨V,w,R1.val h H u,?_⟩
 rw[J]
 exact E _ (h.put W V)
theorem yp:∀(k:Nat){l u:List (Nat × Value)}{E f:List Oper}{a:Act},Fr n l a->pv n.n k l E=some (u,f)->(∀J,Fr n u J->jQ P ops G f J w)->jQ P ops G E a w
 |0,l,u,E,f,a,h,e,H=>by
  simp only[pv,Option.some.injEq,Prod.mk.injEq]at e
  obtain⟨rfl,rfl⟩:=e
  exact H a h
 |k+1,l,u,[],f,a,h,e,H=>by cases e
 |k+1,l,u,o::E,f,a,h,e,H=>by
  simp only[pv]at e
  split at e
  ·cases e
  · rename_i d hd
    split at e
    ·cases e
    · rename_i V W
      exact E9 h hd (sA W) λJ X=>yp k X e H
variable {t ty e:TypeId}{pos:String}{af:Array Edge}{x y:Operand}{b:Nat}{cs:List Value}
theorem tS(h:Fr n l a) (H:HZ w0 Zi Z hl w) (i:Nat){k off:Nat}(hs:∀w,(sizeOf t).run P w=.ok k w) (u f:List Value) (hl':List Own) (kk:∀w',HZ w0 Zi Z hl' w'->jQ P ops G rest a w')
 (hx:ev l x=some (.pointer (some ⟨b,off,none⟩)):=by rfl) (hy:ev l y=some V:=by rfl) (hi:hl[i]?=some (.blk b (aB cs e)):=by rfl) (E:V.cells.toList=u:=by rfl) (hk:u.length=k:=by rfl) (h1:allOne u=true:=by rfl) (hle:Nat.ble (off+k) cs.length=true:=by rfl) (J:putAt cs off u=f:=by rfl) (W:hl.set i (.blk b (aB f e))=hl':=by rfl) :
 jQ P ops G (⟨none,.store t x y,ty,pos,af,none⟩::rest) a w:=by
 have hle:off+k<=cs.length:=by simpa[Nat.ble_eq]using hle
 have X:V.cells.size=k:=by rw[<-hk,<- E];simp
 have e1:execOp a.eval ⟨none,.store t x y,ty,pos,af,none⟩=Instr.storeAt t (a.eval x) (a.eval y) >>= λ_=>pure .skip:=rfl
 obtain⟨w',hr,hh,r1,r2,r3,r4,r5⟩:=dw (P:=P) b off e u 0 cs w (H.hp.get i hi) (by omega) (ge h1)
 have e2:(execOp a.eval ⟨none,.store t x y,ty,pos,af,none⟩).run P w=.ok .skip w':=by
  rw[e1,h.ev hx,h.ev hy]
  simp[Instr.storeAt,Instr.sureAddr,storeVar,hs,X,E,hr]
 rw[Nat.add_zero,J]at hh
 have H':=H.hp.turn i hi (.blk b (aB f e)) hh r1 r2 r3 (by omega) (λb' _ Y=>r5 b' (λe=>Y (by rw[e];rfl))) (λb' hb'=>.inl (by simpa[Own.at]using hb'))
 refine⟨undef,w',.inr ⟨bE O,.inr ⟨e2,O⟩⟩,kk w' ?_⟩
 rw[<-W]
 exact H.turn i hi H' (λc _ hc=>r5 c λe=>hc (by rw[e];rfl)) (λc hc=>.inl (by simpa[Own.at]using hc))
end
end Go.Stp
end
section
namespace Go.ValP
open Go.Stp
structure Nd where
 k:Int
 op:Int
 v:V
 a:Rf
 b:Rf
 nm:List UInt8
 l:List Nd
instance:Inhabited Nd:=⟨⟨0,0,default,default,default,[],[]⟩⟩
structure Gt where
 v:V
 c:C
deriving Inhabited
structure Rs where
 v:V
 c:C
 l:List C
deriving Inhabited
structure Rn where
 p:List V
 c:C
deriving Inhabited
mutual
def vd(Z:FZ):Nd->List Value->Prop
 |⟨k,op,v,a,b,nm,l⟩,cs=>∃u f,cs=[.int .i64 k,.int .i64 op,.int .i64 v.k,.int .i64 v.n,S v.s,.int .i64 a.c.s,.int .i64 a.c.c,.int .i64 a.c.r,.bool a.ac,.bool a.ar,.int .i64 b.c.s,.int .i64 b.c.c,.int .i64 b.c.r,.bool b.ac,.bool b.ar,S nm,u]/\
  bx Z u 17 (Subtype.val (p:=λl:List Value=>l.length=17)) f/\jL Z l f
def jL(Z:FZ):List Nd->List (Cl 17)->Prop
 |[],[]=>True
 |n::l,c::cs=>vd Z n c.1/\jL Z l cs
 |[],_::_=>False
 |_::_,[]=>False
end
theorem nq{Z:FZ}{x:Nd}{cs:List Value}:vd Z x cs<->∃u f,cs=[.int .i64 x.k,.int .i64 x.op,.int .i64 x.v.k,.int .i64 x.v.n,S x.v.s,.int .i64 x.a.c.s,.int .i64 x.a.c.c,.int .i64 x.a.c.r,.bool x.a.ac,.bool x.a.ar,.int .i64 x.b.c.s,.int .i64 x.b.c.c,.int .i64 x.b.c.r,.bool x.b.ac,.bool x.b.ar,S x.nm,u]/\
 bx Z u 17 (Subtype.val (p:=λl:List Value=>l.length=17)) f/\jL Z x.l f:=by
 cases x
 simp only[vd]
mutual
theorem rE{Z Z':FZ}(hz:Z.subC Z'):∀{x:Nd}{cs:List Value},vd Z x cs->vd Z' x cs
 |⟨k,op,v,a,b,nm,l⟩,cs,h=>by
  simp only[vd]at h⊢
  obtain⟨u,f,E,H,J⟩:=h
  exact⟨u,f,E,H.subC hz,po hz J⟩
theorem po{Z Z':FZ}(hz:Z.subC Z'):∀{l:List Nd}{f:List (Cl 17)},jL Z l f->jL Z' l f
 |[],[],_=>by simp only[jL]
 |n::l,c::cs,h=>by
  simp only[jL]at h⊢
  exact⟨rE hz h.1,po hz h.2⟩
 |[],_::_,h=>by simp only[jL]at h
 |_::_,[],h=>by simp only[jL]at h
end
def aj:vt Nd where
 sz:=17
 rel Z x cs:=vd Z x cs
 mono hz h:=rE hz h
 len h:=by
  obtain⟨u,css,f,_⟩:=nq.1 h
  rw[f];rfl
 one h:=by
  obtain⟨u,css,f,E,_⟩:=nq.1 h
  rw[f]
  simp only[allOne,E.one]
  rfl
theorem pJ{Z:FZ}:∀{l:List Nd}{css:List (Cl 17)},jL Z l css<->EL aj Z css l
 |[],[]=>by simp[jL,EL]
 |n::l,c::cs=>by
  simp only[jL,EL,pJ (l:=l) (css:=cs)]
  rfl
 |[],_::_=>by simp[jL,EL]
 |_::_,[]=>by simp[jL,EL]
theorem bd{Z:FZ}{x:Nd}{cs:List Value}(h:aj.rel Z x cs):∃f,cs=[.int .i64 x.k,.int .i64 x.op,.int .i64 x.v.k,.int .i64 x.v.n,S x.v.s,.int .i64 x.a.c.s,.int .i64 x.a.c.c,.int .i64 x.a.c.r,.bool x.a.ac,.bool x.a.ar,.int .i64 x.b.c.s,.int .i64 x.b.c.c,.int .i64 x.b.c.r,.bool x.b.ac,.bool x.b.ar,S x.nm,f]/\bi Z f aj x.l:=by
 obtain⟨f,u,E,H,J⟩:=nq.1 h
 exact⟨f,E,u,H,pJ.1 J⟩
theorem fw{Z:FZ}{x:Nd}{cs:List Value}(h:∃f,cs=[.int .i64 x.k,.int .i64 x.op,.int .i64 x.v.k,.int .i64 x.v.n,S x.v.s,.int .i64 x.a.c.s,.int .i64 x.a.c.c,.int .i64 x.a.c.r,.bool x.a.ac,.bool x.a.ar,.int .i64 x.b.c.s,.int .i64 x.b.c.c,.int .i64 x.b.c.r,.bool x.b.ac,.bool x.b.ar,S x.nm,f]/\bi Z f aj x.l):aj.rel Z x cs:=by
 obtain⟨f,E,u,H,J⟩:=h
 exact nq.2 ⟨f,u,E,H,pJ.2 J⟩
theorem aC{Z:FZ}:aj.rel Z default [.int .i64 0,.int .i64 0,.int .i64 0,.int .i64 0,S [],.int .i64 0,.int .i64 0,.int .i64 0,.bool false,.bool false,.int .i64 0,.int .i64 0,.int .i64 0,.bool false,.bool false,S [],.slice none 0 0]:=fw ⟨_,rfl,bi.nil⟩
abbrev vO(x:Gt):List Value:=[.int .i64 x.v.k,.int .i64 x.v.n,S x.v.s,.int .i64 x.c.s,.int .i64 x.c.c,.int .i64 x.c.r]
def jT:List V:=List.replicate 128 ⟨0,0,[]⟩
theorem mT:jT.length=128:=by simp[jT]
abbrev nA(n:Nd) (s:Value):Value:=.agg #[.int .i64 n.k,.int .i64 n.op,.int .i64 n.v.k,.int .i64 n.v.n,S n.v.s,.int .i64 n.a.c.s,.int .i64 n.a.c.c,.int .i64 n.a.c.r,.bool n.a.ac,.bool n.a.ar,.int .i64 n.b.c.s,.int .i64 n.b.c.c,.int .i64 n.b.c.r,.bool n.b.ac,.bool n.b.ar,S n.nm,s]
abbrev nL(n:Nd) (s:Value):List Value:=[.int .i64 n.k,.int .i64 n.op,.int .i64 n.v.k,.int .i64 n.v.n,S n.v.s,.int .i64 n.a.c.s,.int .i64 n.a.c.c,.int .i64 n.a.c.r,.bool n.a.ac,.bool n.a.ar,.int .i64 n.b.c.s,.int .i64 n.b.c.c,.int .i64 n.b.c.r,.bool n.b.ac,.bool n.b.ar,S n.nm,s]
abbrev gA(n:Gt):Value:=.agg #[.int .i64 n.v.k,.int .i64 n.v.n,S n.v.s,.int .i64 n.c.s,.int .i64 n.c.c,.int .i64 n.c.r]
abbrev gL(n:Gt):List Value:=[.int .i64 n.v.k,.int .i64 n.v.n,S n.v.s,.int .i64 n.c.s,.int .i64 n.c.c,.int .i64 n.c.r]
abbrev vA(n:V):Value:=.agg #[.int .i64 n.k,.int .i64 n.n,S n.s]
abbrev cA(n:C):Value:=.agg #[.int .i64 n.s,.int .i64 n.c,.int .i64 n.r]
abbrev pt(b:Nat):Value:=.pointer (some ⟨b,0,none⟩)
end Go.ValP
end
section
namespace Go.Stp
open Go.RowKit
section
variable {κ ν:Type} [DecidableEq κ] [Inhabited κ]
def wW(m:List (κ × ν)) (q:Nat):κ:=match m[q]? with
 |some p=>p.1
 |none=>default
theorem zH{m:List (κ × ν)}{q:Nat}{p:κ × ν}(h:m[q]?=some p):wW m q=p.1:=by simp[wW,h]
theorem keys_perm{m:List (κ × ν)}{is:List Nat}(u:is.Nodup) (hi:∀i∈is,i<m.length) (f:∀q,q<m.length->q∈is):(is.map (wW m)).Perm (m.map (·.1)):=by
 have E:is.Perm (List.range m.length):=(List.perm_ext_iff_of_nodup u List.nodup_range).2 λq=>⟨λh=>List.mem_range.2 (hi q h),λh=>f q (List.mem_range.1 h)⟩
 have H:=E.map (wW m)
 have J:(List.range m.length).map (wW m)=m.map (·.1):=by
  apply List.ext_getElem?
  intro q
  simp only[List.getElem?_map]
  rcases Nat.lt_or_ge q m.length with h|h
  · rw[List.getElem?_range h,List.getElem?_eq_getElem h]
    simp[wW,h]
  · rw[List.getElem?_eq_none (by simpa using h),List.getElem?_eq_none h]
    rfl
 rwa[J]at H
variable (ek:κ->Value) (ev:ν->Value) (m:List (κ × ν))
def C9(is:List Nat):Nat:=(leftOf (mentL ek ev m 0).toArray is.toArray).size
variable {ek ev m}
theorem qi:∀x∈(mentL ek ev m 0),∃q p,m[q]?=some p/\x=⟨ek p.1,ev p.2,q⟩:=by
 intro x u
 obtain⟨q,f⟩:=List.getElem?_of_mem u
 rw[fF]at f
 cases hp:m[q]? with
 |none=>rw[hp]at f;cases f
 |some p=>
  rw[hp]at f
  simp only[Option.map_some,Option.some.injEq,Nat.zero_add]at f
  exact⟨q,p,hp,f.symm⟩
theorem nP{q:Nat}{p:κ × ν}(h:m[q]?=some p):(⟨ek p.1,ev p.2,q⟩:MapEntry)∈mentL ek ev m 0:=
 List.mem_of_getElem? (i:=q) (by rw[fF,h];simp)
theorem t_:((mentL ek ev m 0).map (·.born)).Nodup:=by
 have:(mentL ek ev m 0).map (·.born)=List.range m.length:=by
  apply List.ext_getElem?
  intro q
  rw[List.getElem?_map,fF]
  rcases Nat.lt_or_ge q m.length with h|h
  · rw[List.getElem?_range h,List.getElem?_eq_getElem h]
    simp
  · rw[List.getElem?_eq_none (l:=List.range m.length) (by simpa using h),List.getElem?_eq_none h]
    rfl
 rw[this]
 exact List.nodup_range
theorem xo{is:List Nat}{q:Nat}{p:κ × ν}(hp:m[q]?=some p) (u:q ∉ is):C9 ek ev m (is++[q])<C9 ek ev m is:=by
 have f:=left_shrinks (mentL ek ev m 0).toArray is.toArray ⟨ek p.1,ev p.2,q⟩ (by
  rw[leftOf,Array.toList_filter]
  exact List.mem_filter.2 ⟨nP hp,by simp[u]⟩)
 have e:is.toArray.push q=(is++[q]).toArray:=by simp
 rw[e]at f
 exact f
theorem ux:∀(n:Nat) (l:List Nat),l.Nodup->(∀i∈l,i<n)->l.length<=n
 |0,[],_,_=>Nat.le_refl _
 |0,x::_,_,h=>absurd (h x (by simp)) (by omega)
 |n+1,l,f,h=>by
  have u:=ux n (l.erase n) (f.erase n) λi hi=>by
   have E:=(List.Nodup.mem_erase_iff f).1 hi
   have:=h i E.2
   omega
  rw[List.length_erase]at u
  split at u<;>omega
theorem xj{is:List Nat}(u:is.Nodup) (hi:∀i∈is,i<m.length){q:Nat}{p:κ × ν}(hp:m[q]?=some p) (E:q ∉ is):is.length+1<=m.length:=by
 have f:(q::is).Nodup:=List.nodup_cons.2 ⟨E,u⟩
 have:=ux m.length (q::is) f λx hx=>by
  rcases List.mem_cons.1 hx with rfl|hx
  ·exact(List.getElem?_eq_some_iff.1 hp).1
  ·exact hi x hx
 simpa using this
theorem vo{is:List Nat}{q:Nat}(u:is.Nodup) (E:q ∉ is):(is++[q]).Nodup:=by
 rw[List.nodup_append]
 exact⟨u,by simp,λa H b f=>by simp at f;subst f;exact λe=>E (e▸H)⟩
theorem vM{is:List Nat}{q:Nat}{p:κ × ν}(hi:∀i∈is,i<m.length) (hp:m[q]?=some p):∀i∈is++[q],i<m.length:=λi h=>by
 rcases List.mem_append.1 h with h|h
 ·exact hi i h
 · obtain rfl:i=q:=by simpa using h
   exact(List.getElem?_eq_some_iff.1 hp).1
variable {P:Program}{ops:Array Oper}{Q:Exit->Act->World->Prop}{rest:List Oper}{n:Nm}{dn:Nat}{l:List (Nat × Value)}{a:Act}{w:World}{w0:Bs}{hl:List Own}{Zi Z:FZ}
 {d:Option Nat}{x y z:Operand}{t kt et ty:TypeId}{pos:String}{af:Array Edge}{g:Option (Nat × Bool)}{b r:Nat}
theorem ze(h:Fr n l a) (H:HZ w0 Zi Z hl w) (i:Nat) (hi:hl[i]?=some (.blk b (cJ ek ev m))) (E:P.underlying t=some (.map kt et)) (J:Stp.ev l x=some (.map (some b))) (hd:Nat.blt dn n.n=true)
 (k:∀u r w',Ext w w'->HZ w0 Zi Z (hl++[.blk r (.mapIter (some b) m.length (([]:List Nat)).toArray m.length)]) w'->Fr n ((dn,.pointer (some ⟨r,0,none⟩))::l) u->wpList P ops Q rest u w') :
 wpList P ops Q (⟨some dn,.range t x,ty,pos,af,none⟩::rest) a w:=by
 refine wpList_plain O λK W=>?_
 have f:=H.hp.get i hi
 have X:execOp a.eval ⟨some dn,.range t x,ty,pos,af,none⟩=Instr.range t (a.eval x) >>= λv=>pure (.value v):=rfl
 have Y:(execOp a.eval ⟨some dn,.range t x,ty,pos,af,none⟩).run P w=.ok (.value (.pointer (some ⟨w.heap.size,0,none⟩))) (w.alloc (.mapIter (some b) m.length #[] m.length)):=by
  rw[X,h.ev J,Sem.run_bind,run_range_map w t kt et b _ _ E f]
  rfl
 unfold Oper.wp
 rw[Y]
 exact W _ _ (k _ w.heap.size _ (Ext.alloc _ _) (H.push (Ext.alloc _ _) (.blk _ _) (heap_alloc_new w _) (λb f=>by simp only[Own.at,Option.some.injEq]at f;omega)) (h.put hd _))
theorem Bp(h:Fr n l a) (H:HZ w0 Zi Z hl w) (i j:Nat){is:List Nat}(hi:hl[i]?=some (.blk b (cJ ek ev m))) (W:hl[j]?=some (.blk r (.mapIter (some b) m.length is.toArray m.length))) (hx:Stp.ev l x=some (.pointer (some ⟨r,0,none⟩))) (hd:Nat.blt dn n.n=true)
 (k0:(∀q,q<m.length->q∈is)->∀E,Fr n ((dn,.tuple #[.bool false])::l) E->wpList P ops Q rest E w)
 (k1:∀q p,m[q]?=some p->q ∉ is->∀E w',HZ w0 Zi Z (hl.set j (.blk r (.mapIter (some b) m.length (is++[q]).toArray m.length))) w'->Fr n ((dn,.tuple #[.bool true,ek p.1,ev p.2])::l) E->wpList P ops Q rest E w') :
 wpList P ops Q (⟨some dn,.next x false,ty,pos,af,none⟩::rest) a w:=by
 refine wpList_plain O λK hK=>?_
 have hb:=H.hp.get i hi
 have hr:=H.hp.get j W
 have e1:execOp a.eval ⟨some dn,.next x false,ty,pos,af,none⟩=Instr.next (a.eval x) false ty >>= λv=>pure (.value v):=rfl
 rcases run_next_at (P:=P) w ty r b m.length m.length is.toArray (mentL ek ev m 0).toArray m.length hr hb (λx hx=>by
  obtain⟨q,p,hp,rfl⟩:=qi x (by simpa using hx)
  exact(List.getElem?_eq_some_iff.1 hp).1) (Nat.le_refl _)with⟨h0,f⟩|⟨e,he,w1,X,f⟩
 · have Y:(execOp a.eval ⟨some dn,.next x false,ty,pos,af,none⟩).run P w=.ok (.value (.tuple #[.bool false])) w:=by
    rw[e1,h.ev hx,Sem.run_bind,f]
    rfl
   unfold Oper.wp
   rw[Y]
   refine hK _ _ (k0 (λq hq=>?_) _ (h.put hd _))
   have:=all_seen _ _ h0 ⟨ek (m[q]).1,ev (m[q]).2,q⟩ (by simpa using nP (List.getElem?_eq_getElem hq))
   simpa using this
 · obtain⟨h1,h2⟩:=mem_left he
   obtain⟨q,p,hp,rfl⟩:=qi e (by simpa using h1)
   have Y:(execOp a.eval ⟨some dn,.next x false,ty,pos,af,none⟩).run P w=.ok (.value (.tuple #[.bool true,ek p.1,ev p.2])) (ChangeMaps.setBlock w1 r (.mapIter (some b) m.length (is++[q]).toArray m.length)):=by
    rw[e1,h.ev hx,Sem.run_bind,f]
    simp
   have H1:HZ w0 Zi Z hl w1:=by
    rcases X with rfl|rfl
    ·exact H
    ·exact H.ext (Ext.drew w)
   have a1:=H1.hp.get j W
   unfold Oper.wp
   rw[Y]
   obtain⟨s1,s2⟩:=MapKept.heap_set (o':=.mapIter (some b) m.length (is++[q]).toArray m.length) a1
   have J:∀c,(Own.blk r (.mapIter (some b) m.length (is++[q]).toArray m.length)).at=some c->(Own.blk r (.mapIter (some b) m.length is.toArray m.length)).at=some c\/w1.heap.size<=c:=λc hc=>.inl hc
   have u:∀c,c<w1.heap.size->(Own.blk r (.mapIter (some b) m.length is.toArray m.length)).at≠some c->(ChangeMaps.setBlock w1 r (.mapIter (some b) m.length (is++[q]).toArray m.length)).heap[c]?=w1.heap[c]?:=λc _ a6=>s2 c λe=>a6 (by rw[e];rfl)
   exact hK _ _ (k1 q p hp (by simpa using h2) _ _ (H1.turn j W (H1.hp.turn j W (.blk r (.mapIter (some b) m.length (is++[q]).toArray m.length)) s1 rfl rfl rfl (by simp[ChangeMaps.setBlock]) u J) u J) (h.put hd _))
theorem zy{is:List Nat}{q:Nat}{p:κ × ν}(u:Stp.ev l x=some (.pointer (some ⟨r,0,none⟩))) (E:w.heap[b]?=some (cJ ek ev m)) (f:w.heap[r]?=some (.mapIter (some b) m.length (is++[q]).toArray m.length)) (hp:m[q]?=some p) :
 cH P l w ⟨d,.entry x,ty,pos,af,g⟩ (.tuple #[ek p.1,ev p.2]):=λn a h=>by
 have H:execOp a.eval ⟨d,.entry x,ty,pos,af,g⟩=Instr.entry (a.eval x) >>= λv=>pure (.value v):=rfl
 have J:(is++[q]).toArray=is.toArray.push q:=by simp
 rw[J]at f
 have W:=run_entry_at (P:=P) w r b m.length is.toArray (mentL ek ev m 0).toArray m.length ⟨ek p.1,ev p.2,q⟩ f E (by simpa using nP hp) (by simpa using t_)
 rw[H,h.ev u,Sem.run_bind,W]
 rfl
end
section
variable {α:Type} [Inhabited α]{enc:α->List Value}{k:Nat}
theorem wL(f:∀x,(enc x).length=k) (E:0<k):∀(xs:List α) (t:Nat),t<xs.length*k->(xs.flatMap enc)[t]?=some ((enc (xs.toArray[t / k]!))[t % k]!)
 |[],t,h=>by simp at h
 |u::r,t,h=>by
  rcases Nat.lt_or_ge t k with h1|h1
  · rw[List.flatMap_cons,List.getElem?_append_left (by rw[f];exact h1),Nat.div_eq_of_lt h1,Nat.mod_eq_of_lt h1]
    have:t<(enc u).length:=by rw[f];exact h1
    simp[this]
  · have J:t / k=(t-k) / k+1:=by
     rw[Nat.div_eq_sub_div E h1]
    have W:t % k=(t-k) % k:=Nat.mod_eq_sub_mod h1
    have H:t-k<r.length*k:=by
     simp only[List.length_cons,Nat.add_mul,Nat.one_mul]at h
     omega
    rw[List.flatMap_cons,List.getElem?_append_right (by rw[f];exact h1),f,wL f E r (t-k) H,J,W]
    have X:(t-k) / k<r.length:=Nat.div_lt_of_lt_mul (by rw[Nat.mul_comm];exact H)
    simp[X]
theorem pC(u:∀x,(enc x).length=k) (f:0<k) (xs:List α):(Sort.flatK enc k xs.toArray).toList=xs.flatMap enc:=by
 have hl:(xs.flatMap enc).length=xs.length*k:=fe enc k u xs
 apply List.ext_getElem?
 intro t
 rcases Nat.lt_or_ge t (xs.length*k)with h|h
 · rw[wL u f xs t h]
   simp[Sort.flatK,h]
 ·rw[List.getElem?_eq_none (by simpa[Sort.flatK]using h),List.getElem?_eq_none (by omega)]
theorem uV{w:World}{g:Nat}{f:Array Value}{e:TypeId}{xs:List α}(W:∀x,(enc x).length=k) (u:0<k) (H:w.heap[g]?=some (.cells f e (0,0))) (X:f.toList.take (xs.length*k)=xs.flatMap enc):Sort.HoldsK enc k w g 0 xs.toArray:=by
 intro j hj
 have E:j<xs.length*k:=by simpa using hj
 refine⟨?_,by simp[World.frozen?,H]⟩
 have J:(f.toList.take (xs.length*k))[j]?=(xs.flatMap enc)[j]?:=by rw[X]
 rw[List.getElem?_take_of_lt E,<- pC W u]at J
 simp only[World.cell?,H,Nat.zero_add]
 simp only[Option.isSome_none,Bool.false_eq_true,if_false]
 rw[<-Array.getElem?_toList,J,Array.getElem?_toList,Array.getElem?_eq_getElem hj,getElem!_pos _ j hj]
 rfl
theorem r9{w:World}{g n:Nat}{os:Array Obj}{f:Array Value}{e:TypeId}{fr:Nat × Nat}(d:Array α) (u:w.heap[g]?=some (.cells f e fr)) :
 (Proofs.sortWorldK enc k w g 0 n d os).heap[g]?=some (.cells (Sort.putCells id 0 (Sort.flatK enc k d) f) e fr):=by
 have hg:g<w.heap.size:=(Array.getElem?_eq_some_iff.1 u).1
 unfold Proofs.sortWorldK Sort.putRowK
 rw[Sort.heap_grow_old _ _ (by simpa using hg)]
 simp[Sort.putRow,Sort.mapBlock,Sort.ahead,Array.getElem?_modify,u,Sort.onCells]
theorem oY{w:World}{g n:Nat}{os:Array Obj}(d:Array α){c:Nat}(hc:c<w.heap.size) (f:c≠g):(Proofs.sortWorldK enc k w g 0 n d os).heap[c]?=w.heap[c]?:=by
 unfold Proofs.sortWorldK Sort.putRowK
 rw[Sort.heap_grow_old _ _ (by simpa using hc)]
 simp[Sort.putRow,Sort.mapBlock,Sort.ahead,Array.getElem?_modify,Ne.symm f]
theorem HZ.sorted{w0:Bs}{w:World}{Zi Z:FZ}{hl:List Own}(H:HZ w0 Zi Z hl w) (i:Nat){e:TypeId}{g f n:Nat}{os:Array Obj}{W:Array Value}{xs u:List α}(hk:∀x,(enc x).length=k) (a6:0<k) (hi:hl[i]?=some (.row e k (.slice (some ⟨g,0,none⟩) xs.length f) xs.length (xs.flatMap enc)))
 (hb:w.heap[g]?=some (.cells W e (0,0))) (h1:xs.length<=f) (h2:f<=maxLen) (h3:W.size=f*k) (Y:u.length=xs.length) :
 HZ w0 Zi Z (hl.set i (.row e k (.slice (some ⟨g,0,none⟩) xs.length f) u.length (u.flatMap enc))) (Proofs.sortWorldK enc k w g 0 n u.toArray os):=by
 have hf:(u.flatMap enc).length=u.length*k:=fe enc k hk u
 have ad:u.length*k<=f*k:=Nat.mul_le_mul_right k (by omega)
 have X:(Proofs.sortWorldK enc k w g 0 n u.toArray os).ownsRow 0 e k (.slice (some ⟨g,0,none⟩) xs.length f) u.length (u.flatMap enc):=
  ⟨hf,.inr ⟨g,f,_,by rw[Y],Nat.zero_le _,r9 _ hb,by omega,h2,by simp[Sort.putCells,h3],by
   rw[<-pC hk a6 u]
   apply List.ext_getElem?
   intro j
   have E:(Sort.flatK enc k u.toArray).size=u.length*k:=by simp
   rcases Nat.lt_or_ge j (u.length*k)with hj|hj
   · have a7:j<W.size:=by rw[h3];omega
     rw[List.getElem?_take_of_lt hj,Array.getElem?_toList,Array.getElem?_toList]
     have e9:(Sort.flatK enc k u.toArray)[j]?=some ((Sort.flatK enc k u.toArray)[j]!):=by
      rw[Array.getElem?_eq_getElem (by rw[E];exact hj),getElem!_pos _ j (by rw[E];exact hj)]
     rw[e9]
     simp[Sort.putCells,hj,a7]
   ·rw[List.getElem?_take_eq_none hj,List.getElem?_eq_none (by rw[Array.length_toList,E];exact hj)]⟩⟩
 have a1:∀b,(Own.row e k (.slice (some ⟨g,0,none⟩) xs.length f) u.length (u.flatMap enc)).at=some b->(Own.row e k (.slice (some ⟨g,0,none⟩) xs.length f) xs.length (xs.flatMap enc)).at=some b\/w.heap.size<=b:=λb hb=>.inl hb
 have J:∀c,c<w.heap.size->(Own.row e k (.slice (some ⟨g,0,none⟩) xs.length f) xs.length (xs.flatMap enc)).at≠some c->(Proofs.sortWorldK enc k w g 0 n u.toArray os).heap[c]?=w.heap[c]?:=λc hc a8=>oY _ hc λe=>a8 (by rw[e];rfl)
 have E:w.heap.size<=(Proofs.sortWorldK enc k w g 0 n u.toArray os).heap.size:=Proofs.size_sortWorldK_c enc k w g 0 n u.toArray os
 exact H.turn i hi (H.hp.turn i hi (.row e k (.slice (some ⟨g,0,none⟩) xs.length f) u.length (u.flatMap enc)) X O O O E J a1) J a1
end
end Go.Stp
end
section
namespace Go.ValP
open Go.Sort
def nc(a b:C):Bool:=if a.s≠b.s then decide (a.s<b.s)else if a.r≠b.r then decide (a.r<b.r)else decide (a.c<b.c)
def j6(a b:C):Int:=if nc a b=true then -1 else 1
theorem rp{a b:C}:nc a b=true<->a.s<b.s\/(a.s=b.s/\(a.r<b.r\/(a.r=b.r/\a.c<b.c))):=by
 unfold nc
 by_cases f:a.s=b.s
 · by_cases u:a.r=b.r
   ·simp[f,u]
   ·simp[f,u]
 ·simp[f]
theorem nM{a b:C}:nc a b=false<->¬(a.s<b.s\/(a.s=b.s/\(a.r<b.r\/(a.r=b.r/\a.c<b.c)))):=by
 rw[<-rp]
 simp
theorem wc:Proofs.ltOf j6=nc:=by
 funext a b
 unfold Proofs.ltOf j6
 cases nc a b<;>simp
theorem BC:SWO (Proofs.ltOf j6):=by
 rw[wc]
 refine⟨λx=>?_,λx y z f u=>?_,λx y z f u=>?_⟩
 ·rw[nM];omega
 ·rw[rp]at f u⊢;omega
 ·rw[nM]at f u⊢;omega
theorem Ei:∀x y:C,Proofs.ltOf j6 x y=false->Proofs.ltOf j6 y x=false->x=y:=by
 rw[wc]
 intro x y f u
 rw[nM]at f u
 obtain⟨s,c,r⟩:=x
 obtain⟨E,H,r'⟩:=y
 simp only at f u
 have J:s=E:=by omega
 have W:r=r':=by omega
 have X:c=H:=by omega
 rw[J,W,X]
def km(l:List C):List C:=l.mergeSort λx y=>!(Proofs.ltOf j6) y x
def uo(m:List (C × Bool)):List C:=km (m.map (·.1))
theorem vy:∀a b c:C,(!(Proofs.ltOf j6) b a)=true->(!(Proofs.ltOf j6) c b)=true->(!(Proofs.ltOf j6) c a)=true:=by
 intro a b c f u
 simp only[Bool.not_eq_true']at f u⊢
 exact BC.ntrans c b a u f
theorem vj:∀a b:C,((!(Proofs.ltOf j6) b a)||!(Proofs.ltOf j6) a b)=true:=by
 intro a b
 cases h:Proofs.ltOf j6 b a with
 |false=>rfl
 |true=>
  cases f:Proofs.ltOf j6 a b with
  |false=>rfl
  |true=>
   have:=BC.trans a b a f h
   rw[BC.irrefl]at this
   cases this
theorem j3(l:List C):(km l).Perm l:=List.mergeSort_perm l _
theorem kQ(l:List C):(km l).Pairwise λx y=>(!(Proofs.ltOf j6) y x)=true:=List.pairwise_mergeSort vy vj l
theorem uq{l f:List C}(h:l.Perm f):km l=km f:=by
 refine List.Perm.eq_of_pairwise (le:=λx y=>(!(Proofs.ltOf j6) y x)=true) (λa b _ _ u E=>?_) (kQ l) (kQ f) (((j3 l).trans h).trans (j3 f).symm)
 simp only[Bool.not_eq_true']at u E
 exact Ei a b E u
theorem rj{m:List (C × Bool)}{ks:List C}(h:ks.Perm (m.map (·.1))):km ks=uo m:=uq h
end Go.ValP
end
section
namespace Go.ValP
open Go.Stp
structure Tk where
 k:Int
 s:List UInt8
 a:Int
deriving Inhabited
abbrev fa(x:Tk):List Value:=[.int .i64 x.k,S x.s,.int .i64 x.a]
def levelsL:List (List UInt8):=[[61,32,60,62,32,60,32,60,61,32,62,32,62,61],[38],[43,32,45],[42,32,47]]
end Go.ValP
end
